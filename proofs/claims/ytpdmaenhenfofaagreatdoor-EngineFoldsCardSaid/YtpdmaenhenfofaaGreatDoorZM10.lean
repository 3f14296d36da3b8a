/- Contracts and laws, joined: Az, Ba, Bb. No condition beside those that each theorem names. -/
import Derived.Test.YtpdmaenhenfofaaGreatDoorZM9
set_option linter.unusedVariables false
set_option linter.unusedSimpArgs false
namespace Go.Am
section
variable {P:Program} {te:TE} {w:World} {g:G}
theorem PT (hte:D1 P te) {t i:Nat} {u:Value} {p r:AV} (h:GG te t i p=some r) (hp:Rel w g u p):
  ∃z,(∀w',(Instr.fieldAt t u i).run P w'=.ok z w')∧Rel w g z r:=by
 obtain⟨z,h1,h2⟩:=Jq (P:=P) hte h hp
 refine⟨z,fun w'=>?_,h2⟩
 unfold GG Abk at h
 split at h
 ·rename_i off ft hf
  split at hf
  ·rename_i i1 i2 i3 fs hl
   obtain⟨d,hd0,hdk⟩:=(hte _ _ hl).und'
   obtain⟨gs,hd,hg⟩:=HV (hte _ _ hl) w rfl
   have hd':(underlying t).run P w'=.ok (.struct gs) w':=by
    have e1:=Go.run_underlying (P:=P) (w:=w) hd0
    rw[e1]at hd;cases hd
    exact Go.run_underlying hd0 w'
   obtain⟨f,hf1,hf2,hf3⟩:=S1 hg hf
   split at h
   ·rename_i fi hfi
    split at h
    ·simp at h
    ·rename_i n hn
     have hn0:fi.size≠0:=by omega
     rw[←hf3]at hfi
     have both: ∀b o,u=.pointer (some ⟨b,o,none⟩)→(Instr.fieldAt t u i).run P w'=.ok z w':=by
      rintro b o rfl
      have k1:(Instr.fieldAt t (.pointer (some ⟨b,o,none⟩)) i).run P w=.ok (.pointer (some ⟨b,o+f.offset,none⟩)) w:=by simp[Instr.fieldAt,hd,hf1,Instr.sureAddr,Ea hte w hfi hn0]
      rw[k1]at h1;cases h1
      simp[Instr.fieldAt,hd',hf1,Instr.sureAddr,Ea hte w' hfi hn0]
     split at h
     ·simp at h;subst h
      cases hp with
      |ref _ _ blk hb=>exact both _ _ rfl
     ·simp at h;subst h
      cases hp with
      |eref _ _ _ _ blk hb=>exact both _ _ rfl
     ·obtain⟨b,o,hu,_⟩:=Ih (A8 hp)
      exact both _ _ hu
     ·simp at h
   ·simp at h
  ·simp at hf
 ·simp at h
def Wm:Op→Bool
 |.move _=>true
 |.fieldAddr _ _ _=>true
 |_=>false
theorem Ack (hte:D1 P te) {a:Act} {env:Env} (he:AY w g a env) {o:Oper} {x:AV} (ha:Wm o.op=true) (h:Ce te o.op env=some x):
  ∃v,(∀w',(execOp a.eval o).run P w'=.ok (.value v) w')∧(∀w',o.about P w' a.eval=none)∧Rel w g v x:=by
 unfold Wm at ha
 split at ha
 ·rename_i y ho
  simp only[ho,Ce]at h
  exact⟨_,fun w'=>by simp[execOp,ho],fun w'=>by simp[Oper.about,ho],Bm he h⟩
 ·rename_i t y i ho
  simp only[ho,Ce]at h
  split at h
  ·rename_i p hp
   obtain⟨z,h1,h2⟩:=PT (P:=P) hte h (Bm he hp)
   exact⟨z,fun w'=>by simp[execOp,ho,h1],fun w'=>by simp[Oper.about,ho],h2⟩
  ·simp at h
 ·cases ha
end
structure DrawOkR (ops:Array Oper) (fl:List Nat) (m:Nat):Prop where
 edge: ∀(i:Nat) o,ops[i]?=some o→ ∀e∈o.after,Region.binds .any e=true→e.on<i
 head: ∀i oi,i<m→i∉fl→ops[i]?=some oi→ ∀j oj,j<i→j∉fl→ops[j]?=some oj→Pre ops j i∨oj.apart ops oi=true
 tail: ∀i,m≤i→i<ops.size→i∉fl→ ∀j,j∉fl→j<i→Pre ops j i
 le:m≤ops.size
section
variable {P:Program} {c:Conf} {n m:Nat} {ops:Array Oper} {news:List Nat}
theorem IP {F:Fence} (hF:IsW F) (hedge: ∀(i:Nat) o,ops[i]?=some o→ ∀e∈o.after,Region.binds .any e=true→e.on<i) {K:Exit→Env→St→Prop} {w0:World} {g0:G}: ∀(ts:List Nat) {fuel:Nat} {listed:Array Bool} {w:World} {g:G} {a:Act} {env:Env} {σ:St},
  listed.size=ops.size→DC ops listed→(∀i∈ts,i<ops.size)→(∀i,i<ops.size→(¬Li listed i↔i∈ts))→ts.Pairwise (· < ·)→(∀i∈ts,∀j∈ts,j<i→Pre ops j i)→ts.length≤fuel→AQ P n ops (ts.filterMap (ops[·]?)) env σ (K .normal)→Good n w g a env σ→Ext w0 g0 w g→
  wpAnyIn F 0 P .any ops (BH n w0 g0 K) fuel listed a w
 |[],fuel,listed,w,g,a,env,σ,hs,_,_,hl,_,_,_,h,hg,hx=>by
  have hready:Region.ready .any ops listed=[]:=by
   apply List.eq_nil_iff_forall_not_mem.2
   intro i hi
   rw[BF hs]at hi
   obtain⟨hn,o,ho,_⟩:=hi
   have hi':i<ops.size:=by
    rcases Nat.lt_or_ge i ops.size with h|h
    ·exact h
    ·rw[Array.getElem?_eq_none h]at ho;cases ho
   have:=(hl i hi').1 hn;simp at this
  have hq:BH n w0 g0 K .normal a w:=⟨env,σ,g,hx,hg,h⟩
  cases fuel with
  |zero=>exact⟨hready,hq⟩
  |succ f=>exact⟨fun _=>hq,fun i hi=>by rw[hready]at hi;simp at hi⟩
 |i::r,0,listed,w,g,a,env,σ,_,_,_,_,_,_,hf,_,_,_=>by simp at hf
 |i::r,fuel+1,listed,w,g,a,env,σ,hs,hdc,hlt0,hl,hsort,hpre,hf,h,hg,hx=>by
  have hmin: ∀j∈r,i<j:=(List.pairwise_cons.1 hsort).1
  have hisz:i<ops.size:=hlt0 i Z
  have ho:ops[i]?=some ops[i]:=Array.getElem?_eq_getElem hisz
  have hn: ¬Li listed i:=(hl i hisz).2 Z
  have hbelow: ∀j,j<i→Li listed j:=fun j hj=>Classical.byContradiction fun hc=>by
   have:=(hl j O).1 hc
   rcases List.mem_cons.1 this with e|e
   ·omega
   ·have:=hmin j e;omega
  have hrdy: ∀o2,ops[i]?=some o2→ ∀e∈o2.after,Region.binds .any e=true→Li listed e.on:=fun o2 ho2 e he hb=>hbelow _ (hedge i o2 ho2 e he hb)
  have hin:i∈Region.ready .any ops listed:=by
   rw[BF hs]
   exact⟨hn,ops[i],ho,hrdy _ ho⟩
  refine⟨fun hnil=>by rw[hnil]at hin;simp at hin,fun i' hi'=>?_⟩
  rw[BF hs]at hi'
  obtain⟨hn',o,ho',hr'⟩:=hi'
  have hsz':i'<ops.size:=by
   rcases Nat.lt_or_ge i' ops.size with h|h
   ·exact h
   ·rw[Array.getElem?_eq_none h]at ho';cases ho'
  have hmem:=(hl i' hsz').1 hn'
  have hii:i'=i:=by
   rcases List.mem_cons.1 hmem with e|e
   ·exact e
   ·exact absurd (Cz hdc (hpre i' (by simp[e]) i Z (hmin i' e)) (fun o2 ho2=>by rw[ho']at ho2;cases ho2;exact hr')) hn
  subst hii
  rw[ho']at ho;cases ho
  have hfm:(i'::r).filterMap (ops[·]?)=ops[i']::r.filterMap (ops[·]?):=by simp[List.filterMap_cons,ho']
  rw[hfm]at h
  simp only[AQ]at h
  have hl': ∀j,j<ops.size→(¬Li (listed.setIfInBounds i' true) j↔j∈r):=by
   intro j hj
   rw[C9 O]
   have hjj:=hl j hj
   constructor
   ·intro hc
    have:j∈i'::r:=hjj.1 (fun h=>hc (.inr h))
    rcases List.mem_cons.1 this with e|e
    ·exact absurd (.inl e) hc
    ·exact e
   ·intro hm hc
    rcases hc with e|e
    ·subst e;have:=hmin j hm;omega
    ·exact hjj.2 (by simp[hm]) e
  have hnext: ∀{w':World} {g':G} {a':Act} {env':Env} {σ':St},AQ P n ops (r.filterMap (ops[·]?)) env' σ' (K .normal)→Good n w' g' a' env' σ'→Ext w0 g0 w' g'→wpAnyIn F 0 P .any ops (BH n w0 g0 K) fuel (listed.setIfInBounds i' true) a' w':=fun h1 h2 h3=>
   IP hF hedge r (by simp[hs]) (hdc.set O hrdy) (fun j hj=>hlt0 j (by simp[hj])) hl' (List.pairwise_cons.1 hsort).2 (fun p hp q hq=>hpre p (by simp[hp]) q (by simp[hq])) (by simpa using hf) h1 h2 h3
  refine Fy hF ho' ?_
  rcases Gn hg h with⟨hw,env0,h,hg⟩|⟨hw,env0,h,hg⟩
  ·refine .inl ⟨hw,?_⟩
   refine h w g a hg.inv hg.env F hF _ _ ?_
   rintro v w' ⟨x,e1,s1,⟨g',k1,k2,k3,k4⟩,e2,hput,h⟩
   exact hnext h (C5 hput ⟨k4,k3,hg.defers.ext k1,hg.size⟩ k2) (hx.trans k1)
  ·refine .inr ⟨hw,?_⟩
   obtain⟨e2,hput,h⟩:=h
   exact hnext h (C5 hput hg (.t _ _ .undef)) hx
theorem U9 {F:Fence} (hF:IsW F) (hp:ProgOk P c) {fl tl:List Nat} (hD:DrawOkR ops fl m) (htl0: ∀i,i∈tl↔m≤i∧i<ops.size∧i∉fl) (hts:tl.Pairwise (· < ·)) {K:Exit→Env→St→Prop} {w0:World} {g0:G} {e:Env} {s:St} (htl:AQ P n ops (tl.filterMap (ops[·]?)) e s (K .normal)):
  ∀(fuel:Nat) {listed:Array Bool} {rem:List Nat} {w:World} {g:G} {a:Act} {env:Env} {σ:St},listed.size=ops.size→DC ops listed→(∀j∈fl,Li listed j)→(∀i∈tl,¬Li listed i)→
  (∀i,i∈rem↔i<m∧ ¬Li listed i)→rem.Pairwise (· < ·)→rem.length+tl.length≤fuel→Fx P c TO n ops news rem env σ e s→Good n w g a env σ→Ext w0 g0 w g→
  wpAnyIn F 0 P .any ops (BH n w0 g0 K) fuel listed a w:=by
 intro fuel
 induction fuel with
 |zero=>
  intro listed rem w g a env σ hs hdc hkl hhi hrem hsort hf hruns hg hx
  have hnil:rem=[]:=List.eq_nil_of_length_eq_zero O
  subst hnil
  refine IP hF (fun i o ho=>hD.edge i o ho) tl hs hdc (fun i hi=>((htl0 i).1 hi).2.1) (fun i hi=>⟨fun h=>?_,fun h=>hhi i h⟩) hts (fun i hi j hj hji=>hD.tail i ((htl0 i).1 hi).1 ((htl0 i).1 hi).2.1 ((htl0 i).1 hi).2.2 j ((htl0 j).1 hj).2.2 hji) (by simpa using hf) htl (hg.eqv hruns.1 hruns.2) hx
  exact Classical.byContradiction fun hc=>by
   rcases Nat.lt_or_ge i m with h1|h1
   ·have:=(hrem i).2 ⟨h1,h⟩;simp at this
   ·exact hc ((htl0 i).2 ⟨h1,hi,fun hf=>h (hkl i hf)⟩)
 |succ fuel ih=>
  intro listed rem w g a env σ hs hdc hkl hhi hrem hsort hf hruns hg hx
  by_cases hnil:rem=[]
  ·subst hnil
   refine IP hF (fun i o ho=>hD.edge i o ho) tl hs hdc (fun i hi=>((htl0 i).1 hi).2.1) (fun i hi=>⟨fun h=>?_,fun h=>hhi i h⟩) hts (fun i hi j hj hji=>hD.tail i ((htl0 i).1 hi).1 ((htl0 i).1 hi).2.1 ((htl0 i).1 hi).2.2 j ((htl0 j).1 hj).2.2 hji) (by simpa using hf) htl (hg.eqv hruns.1 hruns.2) hx
   exact Classical.byContradiction fun hc=>by
    rcases Nat.lt_or_ge i m with h1|h1
    ·have:=(hrem i).2 ⟨h1,h⟩;simp at this
    ·exact hc ((htl0 i).2 ⟨h1,hi,fun hf=>h (hkl i hf)⟩)
  ·obtain⟨i0,rest,rfl⟩: ∃i0 rest,rem=i0::rest:=List.exists_cons_of_ne_nil hnil
   have hm:=hD.le
   obtain⟨hi0,hn0⟩:=(hrem i0).1 Z
   have hmin: ∀j,j<i0→Li listed j:=fun j hj=>Classical.byContradiction fun hc=>by
    have:=(hrem j).2 ⟨by omega,hc⟩
    simp at this
    rcases this with h'|h'
    ·omega
    ·have:=(List.pairwise_cons.1 hsort).1 j h';omega
   have ho0:ops[i0]?=some ops[i0]:=Array.getElem?_eq_getElem O
   have hin:i0∈Region.ready .any ops listed:=by
    rw[BF hs]
    exact⟨hn0,ops[i0],ho0,fun e he hb=>hmin _ (hD.edge i0 _ ho0 e he hb)⟩
   refine⟨fun hnil=>by rw[hnil]at hin;simp at hin,fun i hi=>?_⟩
   rw[BF hs]at hi
   obtain⟨hn,o,ho,hr⟩:=hi
   have hisz:i<ops.size:=by
    rcases Nat.lt_or_ge i ops.size with h|h
    ·exact h
    ·rw[Array.getElem?_eq_none h]at ho;cases ho
   have hr': ∀o2,ops[i]?=some o2→ ∀e∈o2.after,Region.binds .any e=true→Li listed e.on:=fun o2 ho2=>by rw[ho]at ho2;cases ho2;exact hr
   have him:i<m:=Classical.byContradiction fun hc=>hn0 (Cz hdc (hD.tail i O hisz (fun hf=>hn (hkl i hf)) i0 (fun hf=>hn0 (hkl i0 hf)) O) hr')
   have himem:i∈i0::rest:=(hrem i).2 ⟨him,hn⟩
   obtain⟨l1,l2,hsplit⟩:=List.append_of_mem himem
   rw[hsplit]at hruns hsort hrem hf
   have hlt: ∀j∈l1,j<i:=fun j hj=>(List.pairwise_append.1 hsort).2.2 j hj i Z
   have hgt: ∀j∈l2,i<j:=fun j hj=>(List.pairwise_cons.1 (List.pairwise_append.1 hsort).2.1).1 j hj
   have hb:=KG Hy ho (l1:=l1) (l2:=l2) (fun j hj=>by
    obtain⟨hjm,hjn⟩:=(hrem j).1 (by simp[hj])
    have hoj:ops[j]?=some ops[j]:=Array.getElem?_eq_getElem O
    refine⟨ops[j],hoj,?_⟩
    rcases hD.head i o him (fun hf=>hn (hkl i hf)) ho j ops[j] (hlt j hj) (fun hf=>hjn (hkl j hf)) hoj with h'|h'
    ·exact absurd (Cz hdc h' hr') hjn
    ·exact h') hruns
   obtain⟨o2,y,nb,e1,s1,q1,q2,q3,q4,q5⟩:=hb
   rw[ho]at q1;cases q1
   have hrem': ∀j,j∈l1++l2↔j<m∧ ¬Li (listed.setIfInBounds i true) j:=by
    intro j
    rw[C9 O]
    have hj:=hrem j
    constructor
    ·intro hmem
     have hne:j≠i:=by
      rcases List.mem_append.1 hmem with h'|h'
      ·have:=hlt j h';omega
      ·have:=hgt j h';omega
     have:=hj.1 (by rcases List.mem_append.1 hmem with h'|h'<;>simp[h'])
     exact⟨this.1,fun hc=>by rcases hc with h'|h';exact hne h';exact this.2 h'⟩
    ·rintro⟨h1,h2⟩
     have hne:j≠i:=fun e=>h2 (.inl e)
     have:=hj.2 ⟨h1,fun hc=>h2 (.inr hc)⟩
     simp at this⊢
     rcases this with h'|h'|h'
     ·exact .inl h'
     ·exact absurd h' hne
     ·exact .inr h'
   have hsort':(l1++l2).Pairwise (· < ·):=by
    refine List.pairwise_append.2 ⟨(List.pairwise_append.1 hsort).1,(List.pairwise_cons.1 (List.pairwise_append.1 hsort).2.1).2,fun x hx y hy=>?_⟩
    have:=hlt x hx;have:=hgt y hy;omega
   have hhi': ∀j∈tl,¬Li (listed.setIfInBounds i true) j:=fun j hj hc=>by
    rw[C9 O]at hc
    rcases hc with h'|h'
    ·have:=((htl0 j).1 hj).1;omega
    ·exact hhi j hj h'
   have hcont: ∀{w':World} {g':G} {a':Act} {env':Env} {σ':St},(∀t,look env' t=look e1 t)→(∀b,look σ' b=look s1 b)→Good n w' g' a' env' σ'→Ext w0 g0 w' g'→
     wpAnyIn F 0 P .any ops (BH n w0 g0 K) fuel (listed.setIfInBounds i true) a' w':=by
    intro w' g' a' env' σ' he1 hs1 hg1 hx1
    exact ih (by simp[hs]) (hdc.set O hr') (fun j hj=>(C9 O).2 (.inr (hkl j hj))) hhi' hrem' hsort' (by simp at hf⊢;omega) (q5.congr Hy (fun t=>(he1 t).symm) (fun b=>(hs1 b).symm)) hg1 hx1
   have hputg: ∀{w':World} {g':G} {v:Value} {σ':St},Good n w' g' a env σ'→Rel w' g' v y→(∀b,look σ' b=look s1 b)→Ext w0 g0 w' g'→
     wpAnyIn F 0 P .any ops (BH n w0 g0 K) fuel (listed.setIfInBounds i true) (a.put o.dst v) w':=by
    intro w' g' v σ' hg1 hrel hs1 hx1
    cases hd:o.dst with
    |none=>
     refine hcont (env':=env) (fun t=>?_) hs1 hg1 hx1
     rw[q4.1 t,hd];simp
    |some d=>
     have hlt:=q3.1 d hd
     have hput:BM n (some d) y env=some ((d,y)::env):=by
      simp only[BM]
      have:Nat.blt d n=true:=by simpa[Nat.blt_eq]using hlt
      rw[this]
     refine hcont (env':=(d,y)::env) (fun t=>?_) hs1 (C5 hput hg1 hrel) hx1
     rw[q4.1 t,hd,A3];simp
   refine Fy hF ho ?_
   rcases q3.2 with⟨_,hal,_⟩|⟨hw,cf,hcf,hst⟩|⟨hw,hy,hnb⟩
   ·exact hal.elim
   ·refine .inl ⟨CR hg hw,?_⟩
    refine EF hp hcf hg.inv hg.env hst F hF _ _ ?_
    rintro v w' ⟨g',k1,k2,k3,k4⟩
    exact hputg (σ':=nb++σ) ⟨k4,k3,hg.defers.ext k1,hg.size⟩ k2 (fun b=>(q4.2 b).symm) (hx.trans k1)
   ·refine .inr ⟨CR hg hw,?_⟩
    subst hy;subst hnb
    exact hputg (σ':=σ) hg (.t _ _ .undef) (fun b=>(q4.2 b).symm) hx
def Ho (te:TE) (n:Nat) (ops:Array Oper):List Nat→Env→Option Env
 |[],e=>some e
 |i::r,e=>match ops[i]? with
  |some o=>(match o.guard with
   |none=>(match Wm o.op with
    |true=>(match Ce te o.op e with
     |some y=>(match BM n o.dst y e with
      |some e2=>Ho te n ops r e2
      |none=>none)
     |none=>none)
    |false=>none)
   |some _=>none)
  |none=>none
theorem IM (hte:D1 P c.te) {F:Fence} (hro:F.round=none) (hs:Region.noSelect ops=true) {K:Exit→Env→St→Prop} (hK: ∀ch e s,¬K (.panic ch) e s) {w0:World} {g0:G} {fuel:Nat} {w:World} {g:G} {env':Env} {σ:St}: ∀(fl:List Nat) {listed:Array Bool} {a:Act} {env:Env},
  Ep ops fl listed=true→Ho c.te n ops fl env=some env'→Good n w g a env σ→
  (∀a',Good n w g a' env' σ→wpAnyIn F 0 P .any ops (BH n w0 g0 K) fuel (FO fl listed) a' w)→wpAnyIn F 0 P .any ops (BH n w0 g0 K) (fuel+fl.length) listed a w
 |[],listed,a,env,_,he,hg,h=>by simp[Ho]at he;subst he;exact h a hg
 |i::r,listed,a,env,ht,he,hg,h=>by
  simp only[Ep,Bool.and_eq_true]at ht
  simp only[Ho]at he
  split at he
  ·rename_i o ho
   split at he
   ·rename_i hgd
    split at he
    ·rename_i hia
     split at he
     ·rename_i y hy
      split at he
      ·rename_i e2 hp
       obtain⟨v,v1,v2,v3⟩:=Ack (P:=P) hte hg.env hia hy
       have hg2:=C5 hp hg v3
       refine wpAnyIn_take (fuel:=fuel+r.length) (v:=v) hro ho hs ht.1.1 ht.1.2 ?_ ⟨.inl ⟨by simp[Region.wanted,hgd],v1⟩,v2⟩ ?_
       ·rintro ch a1 w1 ⟨e1,s1,g1,_,_,hk⟩;exact absurd hk (hK _ _ _)
       ·exact IM hte hro hs hK r ht.2 he hg2 h
      ·cases he
     ·cases he
    ·cases he
   ·cases he
  ·cases he
def K1 (i:Nat):List Nat→Bool
 |[]=>true
 |j::r=> !Nat.beq i j&&K1 i r
theorem K0 {i:Nat}: ∀{l:List Nat},K1 i l=true↔i∉l
 |[]=>by simp[K1]
 |j::r=>by
  simp only[K1,Bool.and_eq_true,Bool.not_eq_true',List.mem_cons,not_or,K0 (l:=r)]
  constructor
  ·rintro⟨h1,h2⟩;exact⟨fun e=>by subst e;simp at h1,h2⟩
  ·rintro⟨h1,h2⟩;exact⟨by cases h:Nat.beq i j with|false=>rfl|true=>exact absurd (Nat.eq_of_beq_eq_true h) h1,h2⟩
def EH (fl:List Nat):Nat→Nat→List Nat
 |_,0=>[]
 |k,l+1=>bif K1 k fl then k::EH fl (k+1) l else EH fl (k+1) l
theorem Du {fl:List Nat}: ∀{l k i:Nat},i∈EH fl k l↔k≤i∧i<k+l∧i∉fl
 |0,k,i=>by simp[EH];omega
 |l+1,k,i=>by
  simp only[EH]
  cases h:K1 k fl with
  |true=>
   have hk:=K0.1 h
   simp only[cond_true,List.mem_cons,Du (l:=l)]
   constructor
   ·rintro(rfl|⟨h1,h2,h3⟩)
    ·exact⟨Nat.le_refl _,by omega,hk⟩
    ·exact⟨by omega,by omega,h3⟩
   ·rintro⟨h1,h2,h3⟩
    by_cases e:i=k
    ·exact .inl e
    ·exact .inr ⟨by omega,by omega,h3⟩
  |false=>
   have hk:k∈fl:=Classical.byContradiction fun hc=>by rw[K0.2 hc]at h;cases h
   simp only[cond_false,Du (l:=l)]
   constructor
   ·rintro⟨h1,h2,h3⟩;exact⟨by omega,by omega,h3⟩
   ·rintro⟨h1,h2,h3⟩
    have:i≠k:=fun e=>by subst e;exact h3 hk
    exact⟨by omega,by omega,h3⟩
theorem Ge {fl:List Nat}: ∀(l k:Nat),(EH fl k l).Pairwise (· < ·)
 |0,k=>by simp[EH]
 |l+1,k=>by
  simp only[EH]
  cases K1 k fl with
  |true=>exact List.pairwise_cons.2 ⟨fun j hj=>by have:=Du.1 hj;omega,Ge l (k+1)⟩
  |false=>exact Ge l (k+1)
def Sg (ms:List Nat) (i:Nat):List Nat→Bool
 |[]=>true
 |j::r=>(!Nat.blt j i||Nat.testBit (ms.getD i 0) j)&&Sg ms i r
theorem Ok {ms:List Nat} {i:Nat}: ∀{l:List Nat},Sg ms i l=true→ ∀j∈l,j<i→(ms.getD i 0).testBit j=true
 |j::r,h,k,hk,hlt=>by
  simp only[Sg,Bool.and_eq_true,Bool.or_eq_true,Bool.not_eq_true']at h
  rcases List.mem_cons.1 hk with rfl|hk
  ·rcases h.1 with h'|h'
   ·have:Nat.blt k i=true:=by simpa[Nat.blt_eq]using hlt
    rw[this]at h';cases h'
   ·exact h'
  ·exact Ok h.2 k hk hlt
def Ij (ops:Array Oper) (ms:List Nat) (i:Nat):List Nat→Bool
 |[]=>true
 |j::r=>(!Nat.blt j i||(Nat.testBit (ms.getD i 0) j||(match ops[j]?,ops[i]? with
  |some oj,some oi=>oj.apart ops oi
  |_,_=>false)))&&Ij ops ms i r
theorem IX {ms:List Nat} {i:Nat}: ∀{l:List Nat},Ij ops ms i l=true→ ∀j∈l,j<i→ ∀oi oj,ops[i]?=some oi→ops[j]?=some oj→(ms.getD i 0).testBit j=true∨oj.apart ops oi=true
 |j::r,h,k,hk,hlt,oi,oj,hi,hj=>by
  simp only[Ij,Bool.and_eq_true,Bool.or_eq_true,Bool.not_eq_true']at h
  rcases List.mem_cons.1 hk with rfl|hk
  ·rcases h.1 with h'|h'|h'
   ·have:Nat.blt k i=true:=by simpa[Nat.blt_eq]using hlt
    rw[this]at h';cases h'
   ·exact .inl h'
   ·rw[hi,hj]at h';exact .inr h'
  ·exact IX h.2 k hk hlt oi oj hi hj
def Acj (f:Nat→Bool):List Nat→Bool
 |[]=>true
 |i::r=>f i&&Acj f r
theorem P9 {f:Nat→Bool}: ∀{l:List Nat},Acj f l=true→ ∀i∈l,f i=true
 |i::r,h,j,hj=>by
  simp only[Acj,Bool.and_eq_true]at h
  rcases List.mem_cons.1 hj with rfl|hj
  ·exact h.1
  ·exact P9 h.2 j hj
def Abx (ops:Array Oper) (fl:List Nat) (m:Nat):Bool:=
 let ms:=L4 ops.toList []
 let rs:=EH fl 0 ops.size
 JQ 0 ops.toList&&(Acj (fun i=>Ij ops ms i (EH fl 0 m)) (EH fl 0 m)&&(Acj (fun i=>Sg ms i rs) (EH fl m (ops.size-m))&&(Nat.ble m ops.size&&(Region.noSelect ops&&(Ep ops fl (Array.replicate ops.size false)&&Nat.ble (fl.length+((EH fl 0 m).length+(EH fl m (ops.size-m)).length)) ops.size)))))
theorem Abw {fl:List Nat} (h:Abx ops fl m=true):DrawOkR ops fl m∧Region.noSelect ops=true∧Ep ops fl (Array.replicate ops.size false)=true∧fl.length+((EH fl 0 m).length+(EH fl m (ops.size-m)).length)≤ops.size:=by
 simp only[Abx,Bool.and_eq_true]at h
 obtain⟨h1,h2,h3,h4,h5,h6,h7⟩:=h
 have hle:m≤ops.size:=by simpa using h4
 refine⟨⟨fun i o ho e he hbi=>?_,fun i oi hi hif hoi j oj hj hjf hoj=>?_,fun i hi hsz hif j hjf hj=>?_,hle⟩,h5,h6,by simpa using h7⟩
 ·have:=Hb h1 i o (by rw[Array.getElem?_toList];exact ho) e he hbi;omega
 ·have:=IX (P9 h2 i (Du.2 ⟨by omega,by omega,hif⟩)) j (Du.2 ⟨by omega,by omega,hjf⟩) hj oi oj hoi hoj
  rcases this with h'|h'
  ·exact .inl (Gu _ _ h')
  ·exact .inr h'
 ·exact Gu _ _ (Ok (P9 h3 i (Du.2 ⟨hi,by omega,hif⟩)) j (Du.2 ⟨by omega,by omega,hjf⟩) hj)
theorem M4 {alt:Oper→Env→Prop} {K:Env→St→Prop}: ∀(is:List Nat),(∀i∈is,∀o,ops[i]?=some o→ ∀b∈BT o,b∈news)→(∀i∈is,i<ops.size)→ ∀{env:Env} {σ:St},
  hSK P c n ops news (is.filterMap (ops[·]?)) env σ K→ ∃e s,Fx P c alt n ops news is env σ e s∧K e s
 |[],_,_,env,σ,h=>⟨env,σ,⟨fun _=>rfl,fun _=>rfl⟩,h⟩
 |i::r,hn,hlt,env,σ,h=>by
  have hisz:=hlt i Z
  have ho:ops[i]?=some ops[i]:=Array.getElem?_eq_getElem hisz
  have hfm:(i::r).filterMap (ops[·]?)=ops[i]::r.filterMap (ops[·]?):=by simp[List.filterMap_cons,ho]
  rw[hfm]at h
  simp only[hSK]at h
  have hn': ∀i∈r,∀o,ops[i]?=some o→ ∀b∈BT o,b∈news:=fun x hx=>hn x (by simp[hx])
  have hlt': ∀i∈r,i<ops.size:=fun x hx=>hlt x (by simp[hx])
  obtain⟨env1,he1,hc⟩:=KK h
  rcases hc with⟨hw,cf,x,nb,hcf,hst,env2,hput,h⟩|⟨hw,env2,hput,h⟩
  ·obtain⟨e,s,h1,h2⟩:=M4 r hn' hlt' h
   obtain⟨p1,p2⟩:=JB hput he1
   refine⟨e,s,⟨ops[i],x,nb,env2,nb++σ,ho,hn i Z _ ho,⟨p1,.inr (.inl ⟨hw,cf,hcf,?_⟩)⟩,⟨p2,fun _=>rfl⟩,h1⟩,h2⟩
   rw[←hst]
   exact D8 (EX (ops:=ops) fun t _=>(he1 t).symm) (fun _ _=>rfl) (fun _ _=>rfl)
  ·obtain⟨e,s,h1,h2⟩:=M4 r hn' hlt' h
   obtain⟨p1,p2⟩:=JB hput he1
   exact⟨e,s,⟨ops[i],.t .undef,[],env2,σ,ho,hn i Z _ ho,⟨p1,.inr (.inr ⟨hw,rfl,rfl⟩)⟩,⟨p2,fun _=>rfl⟩,h1⟩,h2⟩
theorem Zr (hp:ProgOk P c) (fl:List Nat) (m:Nat) {id:Nat} {env env1 env':Env} {σ σ1:St} {K:Exit→Env→St→Prop} {l1 l2:List Oper} {news:List Nat} (hd:Abx ops fl m=true) (ha:Jj ops.toList=true) (hz:regFrz ops env σ=(env1,σ1)) (hte:Ho c.te n ops fl env1=some env')
  (hl1:(EH fl 0 m).filterMap (ops[·]?)=l1) (hl2:(EH fl m (ops.size-m)).filterMap (ops[·]?)=l2) (hnw:Dc l1=news) (hK: ∀ch e s,¬K (.panic ch) e s)
  (h:hSK P c n ops news l1 env' σ1 (fun env σ=>AQ P n ops l2 env σ (K .normal))):Tr P n (.region id ops true) env σ K:=by
 subst hl1;subst hl2;subst hnw
 refine Tr.regFrz env1 σ1 hz ?_
 intro F hF hrf w g a hg
 obtain⟨hD,hns,htk,hcnt⟩:=Abw hd
 have hro:F.round=none:=by
  rcases hrf with h|h
  ·exact h
  ·simp[Ka,ha]at h
 have hle:=hD.le
 have hin: ∀i∈fl,i<(Array.replicate ops.size false).size:=fun i hi=>by
  have key: ∀{l:List Nat} {ar:Array Bool},Ep ops l ar=true→ ∀i∈l,i<ops.size:=by
   intro l
   induction l with
   |nil=>intro _ _ i hi;simp at hi
   |cons x r ih=>
    intro ar ht i hi
    simp only[Ep,Bool.and_eq_true]at ht
    rcases List.mem_cons.1 hi with rfl|hi
    ·have:=List.contains_iff_mem.1 ht.1.2
     unfold Region.ready at this
     rw[List.mem_filter,List.mem_range]at this
     exact this.1
    ·exact ih ht.2 i hi
  simpa using key htk i hi
 have hLi: ∀j,Li (FO fl (Array.replicate ops.size false)) j↔j∈fl:=fun j=>by
  rw[J7 _ _ _ hin];simp[Li,Array.getElem?_replicate]
 obtain⟨e,s,h1,h2⟩:=M4 (alt:=TO) (EH fl 0 m) (fun i hi o ho=>EC (List.mem_filterMap.2 ⟨i,hi,ho⟩)) (fun i hi=>by have:=Du.1 hi;omega) h
 refine wpIn_region_any hp.mix ?_
 rw[show wpAnyIn F 0 P .any ops (BH n w g K) ops.size=wpAnyIn F 0 P .any ops (BH n w g K) ((ops.size-fl.length)+fl.length)by congr 1;omega]
 refine IM hp.te hro hns hK fl htk hte hg.drew (fun a' hg'=>?_)
 refine U9 hF hp hD (tl:=EH fl m (ops.size-m)) (fun i=>by rw[Du];exact⟨fun⟨a,b,c⟩=>⟨a,by omega,c⟩,fun⟨a,b,c⟩=>⟨a,by omega,c⟩⟩) (Ge _ _) h2 (ops.size-fl.length) (by rw[GT];simp) (Mp _ _ Z htk (fun i o ho hl=>by simp[Li,Array.getElem?_replicate]at hl)) (fun j hj=>(hLi j).2 hj) (fun i hi hl=>by have:=(hLi i).1 hl;exact(Du.1 hi).2.2 this) (fun i=>?_) (Ge _ _) O h1 hg' (Ext.drew w g)
 rw[hLi,Du];exact⟨fun⟨a,b,c⟩=>⟨by omega,c⟩,fun⟨b,c⟩=>⟨by omega,by omega,c⟩⟩
end
end Go.Am
namespace Go.Am
theorem Tr.nilCell {P:Program} {n:Nat} {env:Env} {σ:St} {K:Exit→Env→St→Prop} {code:Code} (b off lab sz:Nat) {cs:List AV} {sz0:Nat} {es0:List (List T)} (hb:look σ b=some (.cells cs)) (hc:cs[off]?=some (.t (.slice .nil sz0 es0))) (hlab:look σ (2*lab)=none)
  (h:Tr P n code env ((2*lab,.grow sz [])::upd σ b (.cells (cs.set off (.row (2*lab) sz 0 0)))) K):Tr P n code env σ K:=by
 intro F hF hrf w g a hg
 obtain⟨k1,k2,k3⟩:=L3 (sz:=sz) hg.inv hlab
 have hne:2*lab≠b:=fun e=>by rw[e,hb]at hlab;cases hlab
 obtain⟨blk,vs,e,q1,q2,q3,q4,q5⟩:=hg.inv.ok b _ hb
 have hβ:(g.with (2*lab) none).β b=some (some blk):=by simp[G.with,Ne.symm hne,q1]
 have hi2:Inv w (g.with (2*lab) none) ((2*lab,.grow sz [])::upd σ b (.cells (cs.set off (.row (2*lab) sz 0 0)))):=by
  have hl: ∀c,look ((2*lab,Blk.grow sz [])::upd σ b (.cells (cs.set off (.row (2*lab) sz 0 0)))) c=if c=b then some (.cells (cs.set off (.row (2*lab) sz 0 0)))else look ((2*lab,Blk.grow sz [])::σ) c:=by
   intro c
   rw[A3,A3,AG]
   by_cases e1:2*lab=c
   ·have:c≠b:=fun e2=>hne (e1.trans e2)
    simp[e1,this]
   ·by_cases e2:b=c
    ·subst e2;simp[hne]
    ·simp[e1,e2,Ne.symm e2]
  refine⟨fun c C hC=>?_,fun c=>?_,k2.inj,k2.lt,fun c hc'=>?_,k2.dis,k2.im,k2.lo,k2.sx.mono (Nat.le_refl _) rfl (fun _ _ _ h=>h) (fun _ _ _ _ _=>rfl) (fun c blk h=>.inl ⟨c,h⟩) (fun c L hL=>?_)⟩
  ·rw[hl]at hC
   split at hC
   ·rename_i e1;subst e1;cases hC
    refine⟨blk,vs,e,hβ,.inl q2,q3,by simp[q4],fun i v x hv hx=>?_⟩
    rw[List.getElem?_set]at hx
    split at hx
    ·rename_i e2
     split at hx
     ·cases hx
      rw[←e2]at hv
      have hr:=A8 (q5 off v _ hv hc)
      cases hr with
      |sliceNil=>exact .rowNil _ _ none Z (by simp[G.with])
      |sliceZ _ _ _ hm=>exact absurd rfl hm
      |slice _ _ _ _ _ _ _ _ _ _ _ hm=>exact absurd rfl hm
     ·cases hx
    ·exact k3 _ _ (q5 i v x hv hx)
   ·exact k2.ok c C hC
  ·rw[hl]
   split
   ·rename_i e1;subst e1;rw[hβ];rfl
   ·exact k2.dom c
  ·obtain⟨r1,cs',r2⟩:=k2.bx c hc'
   refine⟨r1,?_⟩
   rw[hl]
   split
   ·exact⟨_,rfl⟩
   ·exact⟨cs',r2⟩
  ·rw[hl]at hL
   split at hL
   ·cases hL
   ·exact hL
 exact wpIn_mono (h F hF hrf w _ a ⟨hg.env.mono k3,hi2,hg.defers.ext k1,hg.size⟩) fun ex a2 w2 hq=>hq.lift k1
theorem QM {P:Program} {c:Conf} {n:Nat} {ops:Array Oper} {rest:List Oper} {env:Env} {σ:St} {o:Oper} {k:Env→St→Prop} {news:List Nat} {cl:Call} {f d cl' sz lo n':Nat} {as:List AV} {es:List (List T)} {e2:Env} (hg:o.guard=none) (ho:o.op=.call cl) (hb:isB cl.callee=false) (hc:DF c env cl=some (f,as))
  (hfr:Eo as=true) (hct:Ct P f as [] (.row cl' sz lo n') [(cl',.grow sz es)]) (hd:o.dst=some d) (hle:Nat.ble cl' (2*d)=true) (hlk:look σ (2*d)=none) (hp:BM n o.dst (.row (2*d) sz lo n') env=some e2) (h:hSK P c n ops news rest e2 ((2*d,.grow sz es)::σ) k):
  hSK P c n ops news (o::rest) env σ k:=by
 simp only[hSK,B3,hg]
 refine⟨Ot f as [] (.row cl' sz lo n') [(cl',.grow sz es)],.row (2*d) sz lo n',[(2*d,.grow sz es)],Oo hct,?_,e2,hp,h⟩
 unfold BX
 rw[ho]
 simp only
 have hl:look [(cl',Blk.grow sz es)] cl'=some (.grow sz es):=by rw[A3];simp
 split
 ·rename_i hq;rw[hq]at hb;simp[isB]at hb
 ·rename_i hq;rw[hq]at hb;simp[isB]at hb
 ·simp only[hc,hfr,Oq,AV.free,Iu,hd,hl,hle,hlk]
theorem Tr.eqS {P:Program} {n:Nat} {env:Env} {σ:St} {K:Exit→Env→St→Prop} {code:Code} (σ':St) (hs: ∀b,look σ' b=look σ b) (h:Tr P n code env σ' K):Tr P n code env σ K:=
 fun F hF hrf w g a hg=>h F hF hrf w g a (hg.eqv (fun _=>rfl) hs)
theorem Tr.swapS {P:Program} {n:Nat} {env:Env} {r:St} {b c:Nat} {B C:Blk} {K:Exit→Env→St→Prop} {code:Code} (hne:Nat.beq b c=false) (h:Tr P n code env ((c,C)::(b,B)::r) K):Tr P n code env ((b,B)::(c,C)::r) K:=
 Tr.eqS _ (fun d=>by
  have:=Fc hne
  simp only[A3]
  by_cases h1:c=d<;>by_cases h2:b=d<;>simp[h1,h2]
  exact absurd (h2.trans h1.symm) this) h
end Go.Am
namespace Go.Am
theorem Do {env:Env} {o:Operand} {kk:IntKind} {nn:Int} {k d:Nat} (h:ev env o=some (.t (.int kk nn))) (hn:nn=(k:Int)):BD env (some o) d=some k:=by
 subst hn;simp[BD,h,EI]
theorem FM {env:Env} {d:Nat}:BD env none d=some d:=rfl
section
variable {P:Program} {c:Conf} {n:Nat} {ops:Array Oper} {rest:List Oper} {env:Env} {σ:St} {o:Oper} {k:Env→St→Prop} {news:List Nat}
theorem QJ {te:TE} {t e s0 b0 sz esz ebb:Nat} {z0 ez:List T} {ek:TK} {m m':SM} {es:List (List T)} {lo hi mx:Option Operand} {l h:Nat} (ht:look te t=some ⟨s0,b0,z0,.slice e⟩) (he:look te e=some ⟨esz,ebb,ez,ek⟩) (hsz:esz=sz)
  (hh:BD env hi es.length=some h) (hl:BD env lo 0=some l) (h1:h≤es.length) (h2:l≤h) (hm:(mx=none∧m'=Es m (decide (h=es.length)))∨(hi.isSome=true∧mx.isSome=true∧BD env mx 0=some h∧m'=Fo m)):
  G3 te t (.t (.slice m sz es)) env lo hi mx=some (.t (.slice m' sz ((es.drop l).take (h-l)))):=by
 subst hsz
 unfold G3
 simp only[ht,he,hh,hl,if_true,if_pos h1,if_pos h2]
 rcases hm with⟨rfl,rfl⟩|⟨q1,q2,q3,rfl⟩
 ·rfl
 ·cases mx with
  |none=>simp at q2
  |some mx=>cases hi with
   |none=>simp at q1
   |some hi=>simp only[q3,if_true]
theorem DL (hp0:ProgOk P c) {t e s0 b0 sz esz ebb:Nat} {z0 ez:List T} {ek:TK} {m m':SM} {es es':List (List T)} {xo:Operand} {lo hi mx:Option Operand} {l h:Nat} {e2:Env} (hg:o.guard=none) (ho:o.op=.slice t xo lo hi mx) (hx:ev env xo=some (.t (.slice m sz es))) (ht:look c.te t=some ⟨s0,b0,z0,.slice e⟩) (he:look c.te e=some ⟨esz,ebb,ez,ek⟩) (hsz:esz=sz)
  (hh:BD env hi es.length=some h) (hl:BD env lo 0=some l) (h1:h≤es.length) (h2:l≤h) (hm:(mx=none∧m'=Es m (decide (h=es.length)))∨(hi.isSome=true∧mx.isSome=true∧BD env mx 0=some h∧m'=Fo m)) (hes:(es.drop l).take (h-l)=es')
  (hp:BM n o.dst (.t (.slice m' sz es')) env=some e2) (h:AQ P n ops rest e2 σ k):AQ P n ops (o::rest) env σ k:=by
 subst hes
 refine Ae hp0 (x:=.t (.slice m' sz ((es.drop l).take (_-l)))) (e:=env) (s:=σ) hg ?_ hp h
 unfold DN
 rw[ho]
 simp only[Ce,hx,QJ ht he hsz hh hl h1 h2 hm]
theorem Xd {t e s0 b0 sz esz ebb:Nat} {z0 ez:List T} {ek:TK} {m m':SM} {es es':List (List T)} {xo:Operand} {lo hi mx:Option Operand} {l h:Nat} {e2:Env} (hg:o.guard=none) (ho:o.op=.slice t xo lo hi mx) (hx:ev env xo=some (.t (.slice m sz es))) (ht:look c.te t=some ⟨s0,b0,z0,.slice e⟩) (he:look c.te e=some ⟨esz,ebb,ez,ek⟩) (hsz:esz=sz)
  (hh:BD env hi es.length=some h) (hl:BD env lo 0=some l) (h1:h≤es.length) (h2:l≤h) (hm:(mx=none∧m'=Es m (decide (h=es.length)))∨(hi.isSome=true∧mx.isSome=true∧BD env mx 0=some h∧m'=Fo m)) (hes:(es.drop l).take (h-l)=es')
  (hp:BM n o.dst (.t (.slice m' sz es')) env=some e2) (h:hSK P c n ops news rest e2 σ k):hSK P c n ops news (o::rest) env σ k:=by
 subst hes
 refine AA (x:=.t (.slice m' sz ((es.drop l).take (_-l)))) (nb:=[]) hg ?_ rfl hp h
 unfold BX
 rw[ho]
 simp only[Ce,hx,QJ ht he hsz hh hl h1 h2 hm]
end
end Go.Am
