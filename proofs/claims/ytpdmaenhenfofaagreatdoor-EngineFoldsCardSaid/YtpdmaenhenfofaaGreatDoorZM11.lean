/- Contracts and laws, joined: Bc, Bd, Be, Bf, Bg, Bh, Bi, Bj, Bk, Bl. No condition beside those that each theorem names. -/
import Derived.Test.YtpdmaenhenfofaaGreatDoorZM10
set_option linter.unusedVariables false
set_option linter.unusedSimpArgs false
namespace Go.Am
def AJ (x y:T):Prop:=(CG x=true→CG y=true)∧ ∀w M v,RelT w M v x→RelT w M v y
def E6:List T→List T→Prop
 |[],[]=>True
 |x::r,y::s=>AJ x y∧E6 r s
 |_,_=>False
def DK:List (List T)→List (List T)→Prop
 |[],[]=>True
 |x::r,y::s=>E6 x y∧DK r s
 |_,_=>False
theorem AJ.refl (x:T):AJ x x:=⟨id,fun _ _ _ h=>h⟩
theorem AJ.of_eq {x y:T} (h:x=y):AJ x y:=h▸AJ.refl x
theorem AJ.any {m:SM} {sz:Nat} {es:List (List T)}:AJ (.slice m sz es) (.slice .any sz es):=⟨fun _=>rfl,fun _ _ _ h=>NO h⟩
theorem AJ.nil {m:SM} {sz sz':Nat}:AJ (.slice m sz []) (.slice .any sz' []):=⟨fun _=>rfl,fun _ _ _ h=>SV h⟩
theorem AJ.sub {x y:T} (h:AJ x y):Sub (.t x) (.t y):=fun _ _ _ hr=>.t _ _ (h.2 _ _ _ (A8 hr))
theorem E6.refl: ∀l:List T,E6 l l
 |[]=>trivial
 |x::r=>⟨AJ.refl x,E6.refl r⟩
theorem DK.refl: ∀l:List (List T),DK l l
 |[]=>trivial
 |x::r=>⟨E6.refl x,DK.refl r⟩
theorem E6.len: ∀{a b:List T},E6 a b→a.length=b.length
 |[],[],_=>rfl
 |x::r,y::s,h=>by simp[E6.len h.2]
 |[],_::_,h=>h.elim
 |_::_,[],h=>h.elim
theorem E6.get: ∀{a b:List T},E6 a b→ ∀(i:Nat) y,b[i]?=some y→ ∃x,a[i]?=some x∧AJ x y
 |[],[],_,i,y,hy=>by simp at hy
 |x::r,z::s,h,0,y,hy=>by simp at hy;subst hy;exact⟨x,rfl,h.1⟩
 |x::r,z::s,h,i+1,y,hy=>by
  obtain⟨u,h1,h2⟩:=E6.get h.2 i y (by simpa using hy)
  exact⟨u,by simpa using h1,h2⟩
 |[],_::_,h,_,_,_=>h.elim
 |_::_,[],h,_,_,_=>h.elim
theorem E6.app: ∀{a b c d:List T},E6 a b→E6 c d→E6 (a++c) (b++d)
 |[],[],_,_,_,h=>h
 |x::r,y::s,_,_,h1,h2=>⟨h1.1,E6.app h1.2 h2⟩
 |[],_::_,_,_,h,_=>h.elim
 |_::_,[],_,_,h,_=>h.elim
theorem DK.flat: ∀{a b:List (List T)},DK a b→a.length=b.length∧E6 a.flatten b.flatten∧ ∀sz,(∀e∈a,e.length=sz)→ ∀e∈b,e.length=sz
 |[],[],_=>⟨rfl,trivial,fun _ _ _ h=>by simp at h⟩
 |x::r,y::s,h=>by
  obtain⟨h1,h2,h3⟩:=DK.flat h.2
  refine⟨by simp[h1],by simpa using h.1.app h2,fun sz hs e he=>?_⟩
  rcases List.mem_cons.1 he with rfl|he
  ·rw[←h.1.len];exact hs x Z
  ·exact h3 sz (fun z hz=>hs z (by simp[hz])) e he
 |[],_::_,h=>h.elim
 |_::_,[],h=>h.elim
theorem AJ.slice {m:SM} {sz:Nat} {es es':List (List T)} (h:DK es es'):AJ (.slice m sz es) (.slice .any sz es'):=by
 obtain⟨h1,h2,h3⟩:=h.flat
 refine⟨fun _=>rfl,fun w M v hr=>?_⟩
 cases hr with
 |sliceNil=>
  cases es' with
  |nil=>exact .sliceNil _ _
  |cons=>simp at h1
 |sliceZ a _ _ hm=>
  cases es' with
  |nil=>exact .sliceZ a _ _ Z
  |cons=>simp at h1
 |slice b off len cap _ _ _ vs hl hc hf hm hp hsz hone hcell hrel=>
  refine .slice b off len cap .any sz es' vs O hc (fun h=>by cases h) Z (fun _ _ h=>by cases h) (h3 sz hsz) (fun i y hy=>?_) (fun i y hy=>?_) (fun i y hy=>?_)
  ·obtain⟨x,q1,q2⟩:=h2.get i y hy;exact q2.1 (hone i x q1)
  ·obtain⟨x,q1,q2⟩:=h2.get i y hy;exact hcell i x q1
  ·obtain⟨x,q1,q2⟩:=h2.get i y hy;exact q2.2 _ _ _ (hrel i x q1)
theorem Hh {m:SM} {sz:Nat} {es es':List (List T)} (h:DK es es'):Sub (.t (.slice m sz es)) (.t (.slice .any sz es')):=(AJ.slice h).sub
end Go.Am
namespace Go.Am
def Kb:Op→Bool
 |.store _ _ _=>true
 |_=>false
def FV (so xo:Operand) (s0 x0:AV):Oper→Env→Prop:=fun o env=>Kb o.op=true∧so∈o.op.operands∧xo∈o.op.operands∧ev env so=some s0∧ev env xo=some x0
theorem Hq {ops:Array Oper} {so xo:Operand} {s0 x0:AV}:PF ops (FV so xo s0 x0):=fun o env env' h ⟨h1,h2,h3,h4,h5⟩=>
 ⟨h1,h2,h3,by rw[←EX h so h2];exact h4,by rw[←EX h xo h3];exact h5⟩
section
variable {P:Program} {c:Conf} {n m:Nat} {ops:Array Oper} {news:List Nat}
theorem F0 {cf:Nat→List AV→St→Option (AV×St)} {o:Oper} {env:Env} {σ:St} (h:Kb o.op=true):BX c cf news o env σ=none:=by
 cases ho:o.op with
 |store t p x=>unfold BX;rw[ho]
 |_=>rw[ho]at h;simp[Kb]at h
theorem U8 {F:Fence} (hF:IsW F) (hp:ProgOk P c) (hD:DrawOk ops m) {K:Exit→Env→St→Prop} {w0:World} {g0:G} {e:Env} {s:St} {p lab:Nat} {op:Oper} {so xo:Operand} {s0 x0:AV} {B0 B1:Blk}
  (hop:ops[p]?=some op) (hpm:p<m) (hd:op.dst=none) (hgd:op.guard=none) (hst0:Kb op.op=true) (hrn:lab∈news)
  (hsolo: ∀i o,i<m→ops[i]?=some o→i≠p→Kb o.op=false∧lab∉BT o)
  (hdo: ∀{w:World} {g:G} {a:Act} {env:Env} {σ:St},Inv w g σ→AY w g a env→ev env so=some s0→ev env xo=some x0→look σ lab=some B0→Cx P op a w (fun v w'=> ∃g',Ext w g w' g'∧Rel w' g' v .top∧AY w' g' a env∧Inv w' g' (upd σ lab B1)))
  (htl:AQ P n ops (ops.toList.drop m) e (upd s lab B1) (K .normal)):
  ∀(fuel:Nat) {listed:Array Bool} {rem:List Nat} {w:World} {g:G} {a:Act} {env:Env} {σ:St},listed.size=ops.size→DC ops listed→(∀i,m≤i→i<ops.size→ ¬Li listed i)→
  (∀i,i∈rem↔i<m∧ ¬Li listed i)→rem.Pairwise (· < ·)→rem.length+(ops.size-m)≤fuel→Fx P c (FV so xo s0 x0) n ops news rem env σ e s→look σ lab=some B0→
  (¬Li listed p→Good n w g a env σ)→(Li listed p→Good n w g a env (upd σ lab B1))→Ext w0 g0 w g→
  wpAnyIn F 0 P .any ops (BH n w0 g0 K) fuel listed a w:=by
 intro fuel
 induction fuel with
 |zero=>
  intro listed rem w g a env σ hs hdc hhi hrem hsort hf hruns hρ hg1 hg2 hx
  have hnil:rem=[]:=List.eq_nil_of_length_eq_zero O
  subst hnil
  have hpl:Li listed p:=Classical.byContradiction fun hc=>by have:=(hrem p).2 ⟨hpm,hc⟩;simp at this
  have hg:=hg2 hpl
  have hgs:Good n w g a e (upd s lab B1):=hg.eqv (fun t=>hruns.1 t) (fun b=>by rw[AG,AG,hruns.2 b])
  refine DU hF hD 0 m (Nat.le_refl _) hD.le hs (fun i hi=>⟨fun h=>?_,fun h=>?_⟩) O htl hgs hx
  ·exact Classical.byContradiction fun hc=>hhi i O hi h
  ·exact Classical.byContradiction fun hc=>by have:=(hrem i).2 ⟨h,hc⟩;simp at this
 |succ fuel ih=>
  intro listed rem w g a env σ hs hdc hhi hrem hsort hf hruns hρ hg1 hg2 hx
  by_cases hnil:rem=[]
  ·subst hnil
   have hpl:Li listed p:=Classical.byContradiction fun hc=>by have:=(hrem p).2 ⟨hpm,hc⟩;simp at this
   have hg:=hg2 hpl
   have hgs:Good n w g a e (upd s lab B1):=hg.eqv (fun t=>hruns.1 t) (fun b=>by rw[AG,AG,hruns.2 b])
   refine DU hF hD (fuel+1) m (Nat.le_refl _) hD.le hs (fun i hi=>⟨fun h=>?_,fun h=>?_⟩) (by simp at hf;omega) htl hgs hx
   ·exact Classical.byContradiction fun hc=>hhi i O hi h
   ·exact Classical.byContradiction fun hc=>by have:=(hrem i).2 ⟨h,hc⟩;simp at this
  ·obtain⟨i0,rest,rfl⟩: ∃i0 rest,rem=i0::rest:=List.exists_cons_of_ne_nil hnil
   have hm:=hD.le
   obtain⟨hi0,hn0⟩:=(hrem i0).1 Z
   have hmin: ∀j,j<i0→Li listed j:=fun j hj=>Classical.byContradiction fun hc=>by
    have:=(hrem j).2 ⟨by omega,hc⟩
    simp at this
    rcases this with h'|h'
    ·omega
    ·have:=(List.pairwise_cons.1 hsort).1 j h';omega
   have ho0:ops[i0]?=some ops[i0]:=Array.getElem?_eq_getElem O
   have hin:i0∈Region.ready .any ops listed:=by
    rw[BF hs]
    exact⟨hn0,ops[i0],ho0,fun e he hb=>hmin _ (hD.edge i0 _ ho0 e he hb)⟩
   refine⟨fun hnil=>by rw[hnil]at hin;simp at hin,fun i hi=>?_⟩
   rw[BF hs]at hi
   obtain⟨hn,o,ho,hr⟩:=hi
   have hisz:i<ops.size:=by
    rcases Nat.lt_or_ge i ops.size with h|h
    ·exact h
    ·rw[Array.getElem?_eq_none h]at ho;cases ho
   have hr': ∀o2,ops[i]?=some o2→ ∀e∈o2.after,Region.binds .any e=true→Li listed e.on:=fun o2 ho2=>by rw[ho]at ho2;cases ho2;exact hr
   have him:i<m:=Classical.byContradiction fun hc=>hn0 (Cz hdc (hD.tail i O hisz i0 O) hr')
   have himem:i∈i0::rest:=(hrem i).2 ⟨him,hn⟩
   obtain⟨l1,l2,hsplit⟩:=List.append_of_mem himem
   rw[hsplit]at hruns hsort hrem hf
   have hlt: ∀j∈l1,j<i:=fun j hj=>(List.pairwise_append.1 hsort).2.2 j hj i Z
   have hgt: ∀j∈l2,i<j:=fun j hj=>(List.pairwise_cons.1 (List.pairwise_append.1 hsort).2.1).1 j hj
   have hb:=KG Hq ho (l1:=l1) (l2:=l2) (fun j hj=>by
    obtain⟨hjm,hjn⟩:=(hrem j).1 (by simp[hj])
    have hoj:ops[j]?=some ops[j]:=Array.getElem?_eq_getElem O
    refine⟨ops[j],hoj,?_⟩
    rcases hD.head i o him ho j ops[j] (hlt j hj) hoj with h'|h'
    ·exact absurd (Cz hdc h' hr') hjn
    ·exact h') hruns
   obtain⟨o2,y,nb,e1,s1,q1,q2,q3,q4,q5⟩:=hb
   rw[ho]at q1;cases q1
   have hrem': ∀j,j∈l1++l2↔j<m∧ ¬Li (listed.setIfInBounds i true) j:=by
    intro j
    rw[C9 O]
    have hj:=hrem j
    constructor
    ·intro hmem
     have hne:j≠i:=by
      rcases List.mem_append.1 hmem with h'|h'
      ·have:=hlt j h';omega
      ·have:=hgt j h';omega
     have:=hj.1 (by rcases List.mem_append.1 hmem with h'|h'<;>simp[h'])
     exact⟨this.1,fun hc=>by rcases hc with h'|h';exact hne h';exact this.2 h'⟩
    ·rintro⟨h1,h2⟩
     have hne:j≠i:=fun e=>h2 (.inl e)
     have:=hj.2 ⟨h1,fun hc=>h2 (.inr hc)⟩
     simp at this⊢
     rcases this with h'|h'|h'
     ·exact .inl h'
     ·exact absurd h' hne
     ·exact .inr h'
   have hsort':(l1++l2).Pairwise (· < ·):=by
    refine List.pairwise_append.2 ⟨(List.pairwise_append.1 hsort).1,(List.pairwise_cons.1 (List.pairwise_append.1 hsort).2.1).2,fun x hx y hy=>?_⟩
    have:=hlt x hx;have:=hgt y hy;omega
   have hhi': ∀j,m≤j→j<ops.size→ ¬Li (listed.setIfInBounds i true) j:=fun j hj hjs hc=>by
    rw[C9 O]at hc
    rcases hc with h'|h'
    ·omega
    ·exact hhi j hj hjs h'
   have hes:(∀t,o.dst≠some t→look e1 t=look env t):=fun t ht=>by rw[q4.1 t,if_neg ht]
   have hρ1:look s1 lab=some B0:=by
    rw[q4.2]
    rcases q3.new with hnb|⟨d,B,hd1,hnb,_,hnone⟩
    ·subst hnb;exact hρ
    ·rw[Bq hnb]
     have hne:2*d≠lab:=fun e=>by rw[e,hρ]at hnone;cases hnone
     rw[if_neg hne];exact hρ
   have hnext: ∀{w':World} {g':G} {a':Act},(¬Li (listed.setIfInBounds i true) p→Good n w' g' a' e1 s1)→(Li (listed.setIfInBounds i true) p→Good n w' g' a' e1 (upd s1 lab B1))→Ext w0 g0 w' g'→
     wpAnyIn F 0 P .any ops (BH n w0 g0 K) fuel (listed.setIfInBounds i true) a' w':=fun h1 h2 hx1=>
    ih (by simp[hs]) (hdc.set O hr') hhi' hrem' hsort' (by simp at hf⊢;omega) q5 hρ1 h1 h2 hx1
   refine Fy hF ho ?_
   by_cases hip:i=p
   ·
    subst hip
    rw[hop]at ho;cases ho
    have hg:=hg1 hn
    have hwant:Dq ops op env=some true:=by unfold Dq;rw[hgd]
    have halt:FV so xo s0 x0 op env∧y=.top∧nb=[]:=by
     rcases q3.2 with⟨_,h1,h2,h3⟩|⟨_,cf,_,h3⟩|⟨h1,_⟩
     ·exact⟨h1,h2,h3⟩
     ·exfalso;rw[F0 hst0]at h3;cases h3
     ·rw[hwant]at h1;cases h1
    obtain⟨⟨_,_,_,hes0,hex0⟩,rfl,rfl⟩:=halt
    refine .inl ⟨CR hg hwant,?_⟩
    refine hdo hg.inv hg.env hes0 hex0 hρ F hF _ _ ?_
    rintro v w' ⟨g',k1,k2,k3,k4⟩
    refine hnext (fun hc=>absurd ((C9 O).2 (.inl rfl)) hc) (fun _=>?_) (hx.trans k1)
    rw[hd]
    have hgp:Good n w' g' a env _:=⟨k3,k4,hg.defers.ext k1,hg.size⟩
    refine hgp.eqv (fun t=>?_) (fun b=>?_)
    ·exact hes t (by rw[hd];simp)
    ·rw[AG,AG,q4.2 b];rfl
   ·obtain⟨z2,z3⟩:=hsolo i o him ho hip
    have hLi:Li (listed.setIfInBounds i true) p↔Li listed p:=by
     rw[C9 O]
     exact⟨fun h=>h.elim (fun e=>absurd e.symm hip) (fun h=>h),.inr⟩
    have hq:(Dq ops o env=some true∧ ∃cf,IA P cf∧BX c cf news o env σ=some (y,nb))∨(Dq ops o env=some false∧y=.t .undef∧nb=[]):=by
     rcases q3.2 with⟨_,h1,_⟩|h|h
     ·rw[h1.1]at z2;cases z2
     ·exact .inl h
     ·exact .inr h
    have step: ∀{env':Env} {σ':St},(∀t,look env' t=look env t)→(∀b,b≠lab→look σ' b=look σ b)→Good n w g a env' σ'→
      (∀{w':World} {g':G} {a':Act} {env2:Env} {σ2:St},(∀t,look env2 t=if o.dst=some t then some y else look env' t)→(∀b,look σ2 b=look (nb++σ') b)→Good n w' g' a' env2 σ2→Ext w0 g0 w' g'→wpAnyIn F 0 P .any ops (BH n w0 g0 K) fuel (listed.setIfInBounds i true) a' w')→
      (Region.wanted o (yielded ops a.tmps)=true∧o.wpIn F 0 P a w (wpAnyIn F 0 P .any ops (BH n w0 g0 K) fuel (listed.setIfInBounds i true)) (BH n w0 g0 K))∨(Region.wanted o (yielded ops a.tmps)=false∧wpAnyIn F 0 P .any ops (BH n w0 g0 K) fuel (listed.setIfInBounds i true) (a.put o.dst undef) w):=by
     intro env' σ' hev hst hg hk
     have hl1: ∀t,t∈o.looksAt ops→look env t=look env' t:=fun t _=>(hev t).symm
     have hputg: ∀{w':World} {g':G} {v:Value} {σ2:St},Good n w' g' a env' σ2→Rel w' g' v y→(∀b,look σ2 b=look (nb++σ') b)→Ext w0 g0 w' g'→
       wpAnyIn F 0 P .any ops (BH n w0 g0 K) fuel (listed.setIfInBounds i true) (a.put o.dst v) w':=by
      intro w' g' v σ2 hg1 hrel hs1 hx1
      cases hd1:o.dst with
      |none=>exact hk (env2:=env') (fun t=>by rw[hd1];simp) hs1 hg1 hx1
      |some d=>
       have hlt:=q3.1 d hd1
       have hput:BM n (some d) y env'=some ((d,y)::env'):=by
        simp only[BM]
        have:Nat.blt d n=true:=by simpa[Nat.blt_eq]using hlt
        rw[this]
       exact hk (env2:=(d,y)::env') (fun t=>by rw[hd1,A3];simp) hs1 (C5 hput hg1 hrel) hx1
     rcases hq with⟨hw,cf,hcf,hst1⟩|⟨hw,hy,hnb⟩
     ·refine .inl ⟨CR hg (by rw[←DS hl1];exact hw),?_⟩
      have hst2:BX c cf news o env' σ'=some (y,nb):=by
       rw[←D8 (EX hl1) (fun b hb=>(hst b (fun e=>hb (e▸hrn))).symm) (fun b hb=>(hst b (fun e=>z3 (e▸hb))).symm)];exact hst1
      refine EF hp hcf hg.inv hg.env hst2 F hF _ _ ?_
      rintro v w' ⟨g',k1,k2,k3,k4⟩
      exact hputg (σ2:=nb++σ') ⟨k4,k3,hg.defers.ext k1,hg.size⟩ k2 (fun _=>rfl) (hx.trans k1)
     ·refine .inr ⟨CR hg (by rw[←DS hl1];exact hw),?_⟩
      subst hy;subst hnb
      exact hputg (σ2:=σ') hg (.t _ _ .undef) (fun _=>rfl) hx
    have hnbl: ∀b,b=lab→ ∀σ':St,look (nb++σ') b=look σ' b:=fun b hb σ'=>by
     rcases q3.new with hnb|⟨d,B,hd1,hnb,hl,hnone⟩
     ·subst hnb;rfl
     ·rw[Bq hnb]
      have hne:2*d≠b:=fun e=>by rw[e,hb,hρ]at hnone;cases hnone
      rw[if_neg hne]
    have hnbo: ∀b,∀σ1 σ2:St,look σ1 b=look σ2 b→look (nb++σ1) b=look (nb++σ2) b:=fun b σ1 σ2 h=>by
     rcases q3.new with hnb|⟨d,B,hd1,hnb,hl,hnone⟩
     ·subst hnb;exact h
     ·rw[Bq hnb,Bq hnb,h]
    by_cases hpl:Li listed p
    ·have hg:=hg2 hpl
     refine step (env':=env) (σ':=upd σ lab B1) (fun _=>rfl) (fun b hb=>by rw[AG,if_neg (Ne.symm hb)]) hg (fun he2 hs2 hg' hx'=>?_)
     refine hnext (fun hc=>absurd (hLi.2 hpl) hc) (fun _=>hg'.eqv (fun t=>?_) (fun b=>?_)) hx'
     ·rw[he2 t,q4.1 t]
     ·rw[hs2 b,AG]
      by_cases e:lab=b
      ·rw[if_pos e,hnbl b e.symm,AG,if_pos e]
      ·rw[if_neg e,q4.2 b]
       exact hnbo b _ _ (by rw[AG,if_neg e])
    ·have hg:=hg1 hpl
     refine step (env':=env) (σ':=σ) (fun _=>rfl) (fun _ _=>rfl) hg (fun he2 hs2 hg' hx'=>?_)
     exact hnext (fun _=>hg'.eqv (fun t=>by rw[he2 t,q4.1 t]) (fun b=>by rw[hs2 b,q4.2 b])) (fun hc=>absurd (hLi.1 hc) hpl) hx'
def SZ (lab p:Nat):Nat→List Oper→Bool
 |_,[]=>true
 |i,o::r=>(Nat.beq i p||(!Kb o.op&& !(BT o).contains lab))&&SZ lab p (i+1) r
theorem QG {lab p:Nat}: ∀{l:List Oper} {i0:Nat},SZ lab p i0 l=true→ ∀j o,l[j]?=some o→i0+j≠p→Kb o.op=false∧lab∉BT o
 |[],i0,_,j,o,h,_=>by simp at h
 |x::r,i0,hb,j,o,h,hne=>by
  simp only[SZ,Bool.and_eq_true]at hb
  cases j with
  |zero=>
   simp at h;subst h
   have hb1:=hb.1
   cases hq:Nat.beq i0 p with
   |true=>exact absurd (Nat.eq_of_beq_eq_true hq) hne
   |false=>
    simp only[hq,Bool.false_or,Bool.and_eq_true,Bool.not_eq_true']at hb1
    exact⟨hb1.1,fun hc=>by rw[List.contains_iff_mem.2 hc]at hb1;cases hb1.2⟩
  |succ j=>simp at h;exact QG hb.2 j o h O
theorem Ks (hp:ProgOk P c) {op:Oper} {t:Nat} {so xo:Operand} {s0 x0:AV} {lab off:Nat} {cs:List AV} {B1:Blk} (ho:op.op=.store t so xo) (hs0:s0=.ref lab off) (hsv: ∀σ,look σ lab=some (.cells cs)→HX c.te t s0 x0 σ=some (upd σ lab B1))
  {w:World} {g:G} {a:Act} {env:Env} {σ:St} (hi:Inv w g σ) (he:AY w g a env) (h1:ev env so=some s0) (h2:ev env xo=some x0) (h3:look σ lab=some (.cells cs)):Cx P op a w (fun v w'=> ∃g',Ext w g w' g'∧Rel w' g' v .top∧AY w' g' a env∧Inv w' g' (upd σ lab B1)):=by
 obtain⟨w',q1,q2,q3,q4⟩:=MO hp.te hi (Bm he h1) (Bm he h2) (hsv σ h3)
 exact Cx.skip (w':=w') (by simp[execOp,ho,q1]) ⟨g,q2,.top _,he.mono q4,q3⟩
theorem Ahm (hp:ProgOk P c) {id p lab off t:Nat} {env env':Env} {σ σ':St} {K:Exit→Env→St→Prop} {op:Oper} {so xo:Operand} {x0:AV} {cs:List AV} {B1:Blk} {l1 l2:List Oper}
  (hm:Jy ops=some m) (hz:regFrz ops env σ=(env',σ')) (hsplit:ops.toList.take m=l1++op::l2) (hlen:l1.length=p) (ho:op.op=.store t so xo) (hdst:op.dst=none) (hgd:op.guard=none) (hsolo:SZ lab p 0 (ops.toList.take m)=true)
  (hlab:look σ' lab=some (.cells cs)) (hsv: ∀σ,look σ lab=some (.cells cs)→HX c.te t (.ref lab off) x0 σ=some (upd σ lab B1))
  (h:hSK P c n ops (lab::Dc (ops.toList.take m)) l1 env' σ' (fun e1 s1=>ev e1 so=some (.ref lab off)∧ev e1 xo=some x0∧hSK P c n ops (lab::Dc (ops.toList.take m)) l2 e1 s1 (fun e s=>AQ P n ops (ops.toList.drop m) e (upd s lab B1) (K .normal)))):
  Tr P n (.region id ops true) env σ K:=by
 intro F hF hrf w g0 a hg0
 obtain⟨g,hx,hg⟩:=Eg hz hg0
 have hD:=HM hm
 have hle:=hD.le
 have hml:(ops.toList.take m).length=m:=by simp;omega
 have hll:l1.length+(l2.length+1)=m:=by rw[←hml,hsplit];simp
 have hgl: ∀j,j<m→(l1++op::l2)[j]?=ops[j]?:=fun j hj=>by
  rw[←hsplit,List.getElem?_take,if_pos O,Array.getElem?_toList]
 have hop:ops[p]?=some op:=by
  have:=hgl l1.length O
  rw[List.getElem?_append_right (Nat.le_refl _),Nat.sub_self,hlen]at this
  simpa using this.symm
 have hmem: ∀o,o∈l1++op::l2→ ∀b∈BT o,b∈lab::Dc (ops.toList.take m):=fun o ho b hb=>List.mem_cons_of_mem _ (EC (by rw[hsplit];exact ho) b hb)
 obtain⟨e1,s1,r1,v1,v2,h⟩:=E2 (alt:=FV so xo (.ref lab off) x0) l1 0 (fun j hj=>by have:=hgl j O;rw[List.getElem?_append_left hj]at this;rwa[Nat.zero_add]) (fun o ho=>hmem o (by simp[ho])) h
 obtain⟨e,s,r2,htl⟩:=E2 (alt:=FV so xo (.ref lab off) x0) l2 (p+1) (fun j hj=>by
  have:=hgl (l1.length+1+j) O
  rw[List.getElem?_append_right O,show l1.length+1+j-l1.length=j+1 by omega,List.getElem?_cons_succ,show l1.length+1+j=p+1+j by omega]at this
  exact this) (fun o ho=>hmem o (by simp[ho])) h
 have rp:Fx P c (FV so xo (.ref lab off) x0) n ops (lab::Dc (ops.toList.take m)) (p::List.range' (p+1) l2.length) e1 s1 e s:=
  ⟨op,.top,[],e1,s1,hop,hmem op Z,⟨fun d hd1=>(by rw[hdst]at hd1;cases hd1),.inl ⟨by unfold Dq;rw[hgd],⟨by rw[ho];rfl,by simp[ho,Op.operands],by simp[ho,Op.operands],v1,v2⟩,rfl,rfl⟩⟩,⟨fun t=>by rw[hdst];simp,fun _=>rfl⟩,r2⟩
 have hruns:=Fx.app Hq r1 rp
 have hrl:List.range' 0 l1.length++p::List.range' (p+1) l2.length=List.range' 0 m:=by
  have h1:p::List.range' (p+1) l2.length=List.range' p (l2.length+1):=by rw[List.range'_succ]
  rw[h1,←hll,←List.range'_append_1 (s:=0) (m:=l1.length),hlen,Nat.zero_add]
 rw[hrl]at hruns
 refine wpIn_mono ?_ fun ex a2 w2 (hq:BH n w g K ex a2 w2)=>hq.lift hx
 refine wpIn_region_any hp.mix ?_
 refine U8 hF hp hD hop O hdst hgd (by rw[ho];rfl) Z (fun i o hi ho' hne=>?_) (fun hi he h1 h2 h3=>Ks hp ho rfl hsv hi he h1 h2 h3) htl ops.size Z (fun i o ho hl=>by simp[Li,Array.getElem?_replicate]at hl) (fun i _ _ hl=>by simp[Li,Array.getElem?_replicate]at hl) (rem:=List.range' 0 m) (fun i=>by simp[Li,Array.getElem?_replicate,List.mem_range'_1]) List.pairwise_lt_range' (by simp;omega) hruns hlab (fun _=>hg.drew) (fun hc=>by simp[Li,Array.getElem?_replicate]at hc) (Ext.drew w g)
 refine QG hsolo i o ?_ O
 rw[List.getElem?_take,if_pos hi,Array.getElem?_toList];exact ho'
theorem Mo {te:TE} {t lab off:Nat} {ti:TI} {x0:AV} {ys cs:List AV} (ht:look te t=some ti) (hy:Ft x0=some ys) (hl:ys.length=ti.size) (hle:Nat.ble (off+ti.size) cs.length=true): ∀σ,look σ lab=some (.cells cs)→HX te t (.ref lab off) x0 σ=some (upd σ lab (.cells (Fj cs off ys))):=by
 intro σ h
 have hle':off+ti.size≤cs.length:=by simpa using hle
 unfold HX
 simp only[ht,hy,hl,if_true,h,hle']
theorem Acz (hp:ProgOk P c) (p:Nat) {id lab off t:Nat} {env env':Env} {σ σ':St} {K:Exit→Env→St→Prop} {op:Oper} {so xo:Operand} {x0:AV} {cs ys:List AV} {ti:TI} {l1 l2 l3:List Oper} {news:List Nat}
  (hm:Jy ops=some m) (hz:regFrz ops env σ=(env',σ')) (h1:ops.toList.take p=l1) (h2:(ops.toList.take m).drop p=op::l2) (h3:ops.toList.drop m=l3) (ho:op.op=.store t so xo) (hdst:op.dst=none) (hgd:op.guard=none) (hsolo:SZ lab p 0 (ops.toList.take m)=true) (hn:Dc (ops.toList.take m)=news)
  (hlab:look σ' lab=some (.cells cs)) (ht:look c.te t=some ti) (hl:ys.length=ti.size) (hlc:Nat.ble (off+ti.size) cs.length=true)
  (h:hSK P c n ops (lab::news) l1 env' σ' (fun e1 s1=>ev e1 so=some (.ref lab off)∧ev e1 xo=some x0∧hSK P c n ops (lab::news) l2 e1 s1 (fun e s=>AQ P n ops l3 e (upd s lab (.cells (Fj cs off ys))) (K .normal)))) (hy:Ft x0=some ys):
  Tr P n (.region id ops true) env σ K:=by
 subst hn;subst h3
 have hle:=(HM hm).le
 have hpm:p<m:=by
  rcases Nat.lt_or_ge p m with h|h
  ·exact h
  ·rw[List.drop_of_length_le (by simp;omega)]at h2;cases h2
 have hpl:l1.length=p:=by rw[←h1];simp;omega
 have hsplit:ops.toList.take m=l1++op::l2:=by
  rw[←h2,←h1]
  have:=(List.take_append_drop p (ops.toList.take m)).symm
  rwa[List.take_take,Nat.min_eq_left O]at this
 exact Ahm hp hm hz hsplit hpl ho hdst hgd hsolo hlab (Mo ht hy hl hlc) h
end
end Go.Am
namespace Go.Am
def Ii (done:List Nat):List Edge→Bool
 |[]=>true
 |e::r=>(!Region.binds .any e||Im e.on done)&&Ii done r
def Ie (done:List Nat):Nat→List Oper→List Nat
 |_,[]=>[]
 |i,o::r=>bif (!Im i done&&Ii done o.after.toList)then i::Ie done (i+1) r else Ie done (i+1) r
def Id (ops:Array Oper) (done:List Nat):List Nat:=Ie done 0 ops.toList
theorem MU {done:List Nat}: ∀{l:List Edge},Ii done l=true↔ ∀e∈l,Region.binds .any e=true→e.on∈done
 |[]=>by simp[Ii]
 |e::r=>by
  simp only[Ii,Bool.and_eq_true,Bool.or_eq_true,Bool.not_eq_true',List.mem_cons,MU (l:=r),Jb]
  constructor
  ·rintro⟨h1,h2⟩ x (rfl|hx) hb
   ·rcases h1 with h1|h1
    ·rw[h1]at hb;cases hb
    ·exact h1
   ·exact h2 x hx hb
  ·intro h
   refine⟨?_,fun x hx=>h x (.inr hx)⟩
   cases hb:Region.binds .any e with
   |false=>exact .inl rfl
   |true=>exact .inr (h e (.inl rfl) hb)
theorem MT {done:List Nat}: ∀{l:List Oper} {k i:Nat},i∈Ie done k l↔k≤i∧ ∃o,l[i-k]?=some o∧i∉done∧ ∀e∈o.after,Region.binds .any e=true→e.on∈done
 |[],k,i=>by simp[Ie]
 |o::r,k,i=>by
  have key:(!Im k done&&Ii done o.after.toList)=true↔k∉done∧ ∀e∈o.after,Region.binds .any e=true→e.on∈done:=by
   simp only[Bool.and_eq_true,Bool.not_eq_true',MU,Array.mem_toList_iff]
   refine and_congr ?_ Iff.rfl
   rw[←Jb (l:=done)];simp
  have hstep:(i∈Ie done (k+1) r)↔k+1≤i∧ ∃o2,(o::r)[i-k]?=some o2∧i∉done∧ ∀e∈o2.after,Region.binds .any e=true→e.on∈done:=by
   rw[MT]
   refine and_congr_right fun h=>?_
   rw[show i-k=(i-(k+1))+1 by omega,List.getElem?_cons_succ]
  simp only[Ie]
  cases hc:(!Im k done&&Ii done o.after.toList)with
  |true=>
   obtain⟨h1,h2⟩:=key.1 hc
   simp only[cond_true,List.mem_cons,hstep]
   constructor
   ·rintro(rfl|⟨h3,h4⟩)
    ·exact⟨Nat.le_refl _,o,by simp,h1,h2⟩
    ·exact⟨by omega,h4⟩
   ·rintro⟨h3,h4⟩
    by_cases e:i=k
    ·exact .inl e
    ·exact .inr ⟨by omega,h4⟩
  |false=>
   simp only[cond_false,hstep]
   constructor
   ·rintro⟨h3,h4⟩;exact⟨by omega,h4⟩
   ·rintro⟨h3,o2,h4,h5,h6⟩
    by_cases e:i=k
    ·subst e
     simp at h4;subst h4
     rw[key.2 ⟨h5,h6⟩]at hc;cases hc
    ·exact⟨by omega,o2,h4,h5,h6⟩
theorem VM {ops:Array Oper} {done:List Nat} {i:Nat}:i∈Id ops done↔ ∃o,ops[i]?=some o∧i∉done∧ ∀e∈o.after,Region.binds .any e=true→e.on∈done:=by
 unfold Id
 rw[MT]
 simp
section
variable {P:Program} {c:Conf} {n m:Nat} {ops:Array Oper}
def PP (P:Program) (n:Nat) (ops:Array Oper):Nat→List Nat→Env→St→(Env→St→Prop)→Prop
 |0,done,env,σ,K=>Id ops done=[]∧K env σ
 |f+1,done,env,σ,K=>(Id ops done=[]→K env σ)∧ ∀i∈Id ops done,∃o,ops[i]?=some o∧AQ P n ops [o] env σ (fun env σ=>PP P n ops f (i::done) env σ K)
theorem RI {F:Fence} (hF:IsW F) {K:Exit→Env→St→Prop} {w0:World} {g0:G}: ∀(fuel:Nat) {done:List Nat} {listed:Array Bool} {w:World} {g:G} {a:Act} {env:Env} {σ:St},
  listed.size=ops.size→(∀j,Li listed j↔j∈done)→PP P n ops fuel done env σ (K .normal)→Good n w g a env σ→Ext w0 g0 w g→wpAnyIn F 0 P .any ops (BH n w0 g0 K) fuel listed a w:=by
 have hrdy: ∀{done:List Nat} {listed:Array Bool},listed.size=ops.size→(∀j,Li listed j↔j∈done)→ ∀i,i∈Region.ready .any ops listed↔i∈Id ops done:=fun{done} {listed} hs hl i=>by
  rw[BF hs,VM]
  constructor
  ·rintro⟨h1,o,h2,h3⟩
   exact⟨o,h2,fun hc=>h1 ((hl i).2 hc),fun e he hb=>(hl _).1 (h3 e he hb)⟩
  ·rintro⟨o,h2,h1,h3⟩
   exact⟨fun hc=>h1 ((hl i).1 hc),o,h2,fun e he hb=>(hl _).2 (h3 e he hb)⟩
 intro fuel
 induction fuel with
 |zero=>
  intro done listed w g a env σ hs hl h hg hx
  obtain⟨h1,h2⟩:=h
  refine⟨?_,env,σ,g,hx,hg,h2⟩
  rw[List.eq_nil_iff_forall_not_mem]
  intro i hi
  rw[hrdy hs hl,h1]at hi
  simp at hi
 |succ fuel ih=>
  intro done listed w g a env σ hs hl h hg hx
  obtain⟨h1,h2⟩:=h
  refine⟨fun hnil=>⟨env,σ,g,hx,hg,h1 ?_⟩,fun i hi=>?_⟩
  ·rw[List.eq_nil_iff_forall_not_mem]
   intro i hi
   rw[←hrdy hs hl,hnil]at hi
   simp at hi
  ·obtain⟨o,ho,h⟩:=h2 i ((hrdy hs hl i).1 hi)
   have hlt:i<ops.size:=(Array.getElem?_eq_some_iff.1 ho).1
   have hl': ∀j,Li (listed.setIfInBounds i true) j↔j∈i::done:=fun j=>by
    rw[C9 O,hl j,List.mem_cons]
   simp only[AQ]at h
   refine Fy hF ho ?_
   rcases Gn hg h with⟨hw,env0,h,hg⟩|⟨hw,env0,h,hg⟩
   ·refine .inl ⟨hw,?_⟩
    refine h w g a hg.inv hg.env F hF _ _ ?_
    rintro v w' ⟨x,e1,s1,⟨g',k1,k2,k3,k4⟩,e2,hput,h⟩
    exact ih (by simp[hs]) hl' h (C5 hput ⟨k4,k3,hg.defers.ext k1,hg.size⟩ k2) (hx.trans k1)
   ·refine .inr ⟨hw,?_⟩
    obtain⟨e2,hput,h⟩:=h
    exact ih (by simp[hs]) hl' h (C5 hput hg (.t _ _ .undef)) hx
theorem Zs (hp:ProgOk P c) {id f:Nat} {env env':Env} {σ σ':St} {K:Exit→Env→St→Prop} (hf:ops.size=f) (hz:regFrz ops env σ=(env',σ')) (h:PP P n ops f [] env' σ' (K .normal)):Tr P n (.region id ops true) env σ K:=by
 subst hf
 intro F hF hrf w g0 a hg0
 obtain⟨g,hx,hg⟩:=Eg hz hg0
 refine wpIn_mono ?_ fun ex a2 w2 (hq:BH n w g K ex a2 w2)=>hq.lift hx
 refine wpIn_region_any hp.mix ?_
 exact RI hF ops.size Z (fun j=>by simp[Li,Array.getElem?_replicate]) h hg.drew (Ext.drew w g)
theorem P8 {f:Nat} {done:List Nat} {env:Env} {σ:St} {K:Env→St→Prop} (hr:Id ops done=[]) (h:K env σ):PP P n ops f done env σ K:=by
 cases f with
 |zero=>exact⟨hr,h⟩
 |succ f=>exact⟨fun _=>h,fun i hi=>by rw[hr]at hi;simp at hi⟩
theorem P7 {f i:Nat} {o:Oper} {done:List Nat} {env:Env} {σ:St} {K:Env→St→Prop} (hr:Id ops done=[i]) (ho:ops[i]?=some o) (h:AQ P n ops [o] env σ (fun env σ=>PP P n ops f (i::done) env σ K)):PP P n ops (f+1) done env σ K:=
 ⟨fun hc=>(by rw[hr]at hc;cases hc),fun j hj=>by rw[hr]at hj;simp at hj;subst hj;exact⟨o,ho,h⟩⟩
theorem P6 {f i j:Nat} {o o2:Oper} {done:List Nat} {env:Env} {σ:St} {K:Env→St→Prop} (hr:Id ops done=[i,j]) (ho:ops[i]?=some o) (ho2:ops[j]?=some o2) (h:AQ P n ops [o] env σ (fun env σ=>PP P n ops f (i::done) env σ K)) (h2:AQ P n ops [o2] env σ (fun env σ=>PP P n ops f (j::done) env σ K)):PP P n ops (f+1) done env σ K:=
 ⟨fun hc=>(by rw[hr]at hc;cases hc),fun k hk=>by
  rw[hr]at hk;simp at hk
  rcases hk with rfl|rfl
  ·exact⟨o,ho,h⟩
  ·exact⟨o2,ho2,h2⟩⟩
end
end Go.Am
namespace Go.Am
section
variable {P:Program} {c:Conf} {n:Nat} {ops:Array Oper} {rest:List Oper} {env:Env} {σ:St} {o:Oper} {K:Exit→Env→St→Prop} {k:Env→St→Prop}
theorem Ah7 (t b ρ:Nat) {sz:Nat} {es:List (List T)} {L:List Rt} {y:AV} (y':Nat→Nat→AV) (L':Nat→Nat→List Rt) (hg:o.guard=none) (hb:look σ b=some (.grow sz es)) (hρ:look σ ρ=some (.rights L)) (hne:es≠[]) (hy:look env t=some y)
  (hps: ∀blk N,PS b sz es blk N y (y' blk N)) (hL: ∀blk N,(∀q∈L,q.1≠blk)→((L' blk N).map Prod.fst).Nodup∧ ∀q∈L' blk N,q=(blk,N,es.length*sz)∨q∈L)
  (h: ∀blk N,(∀q∈L,q.1≠blk)→AQ P n ops (o::rest) ((t,y' blk N)::H9 b sz es env) (upd (Fh b sz es σ) ρ (.rights (L' blk N))) k):AQ P n ops (o::rest) env σ k:=by
 simp only[AQ,B3,hg]at h⊢
 intro w g a hi he
 obtain⟨blk,N,hf,g',k1,k2,k3,k4⟩:=Ad9 hi hb hρ hne
 obtain⟨q1,q2⟩:=hL blk N hf
 refine(h blk N hf w g' a (k2 _ q1 q2) (fun t' x hx=>?_)).mono ?_
 ·rw[A3]at hx
  split at hx
  ·rename_i e;subst e;cases hx;exact hps blk N w g g' k4 k3 _ (he t y hy)
  ·rw[E3]at hx
   cases hl:look env t' with
   |none=>simp[hl]at hx
   |some z=>simp[hl]at hx;subst hx;exact k3 _ _ (he t' z hl)
 ·rintro v w' ⟨x,e,s,hp,hk⟩
  exact⟨x,e,s,hp.lift k1,hk⟩
theorem SW {w:World} {g:G} (b:Nat) {sz:Nat} {es es':List (List T)} (hb:look σ b=some (.grow sz es)) (hs:DK es es') (hi:Inv w g σ):Inv w g (upd σ b (.grow sz es')):=by
 obtain⟨h1,h2,h3⟩:=hs.flat
 obtain⟨q0,hor⟩:=hi.ok b _ hb
 refine⟨fun d C hC=>?_,fun d=>?_,hi.inj,hi.lt,fun d hc'=>⟨(hi.bx d hc').1,?_⟩,hi.dis,hi.im,hi.lo,hi.sx.upd b (fun L h=>by cases h)⟩
 ·rw[AG]at hC
  split at hC
  ·rename_i e1;subst e1;cases hC
   refine⟨h3 sz q0,?_⟩
   rcases hor with⟨p1,p2⟩|⟨blk,vs,e,p1,p2,p3,p4,p5⟩
   ·refine .inl ⟨p1,?_⟩
    subst p2
    cases es' with
    |nil=>rfl
    |cons=>simp at h1
   ·refine .inr ⟨blk,vs,e,p1,p2,p3,by rw[←h2.len];exact p4,fun i v x hv hx=>?_⟩
    obtain⟨y,r1,r2⟩:=h2.get i x hx
    obtain⟨s1,s2⟩:=p5 i v y hv r1
    exact⟨r2.1 s1,r2.2 _ _ _ s2⟩
  ·exact hi.ok d C hC
 ·rw[AG]
  by_cases e1:b=d
  ·subst e1;rw[←hi.dom b,hb];simp
  ·simp only[if_neg e1];exact hi.dom d
 ·rw[AG]
  split
  ·rename_i e1;subst e1
   obtain⟨cs,hcs⟩:=(hi.bx b hc').2
   rw[hb]at hcs;cases hcs
  ·exact(hi.bx d hc').2
theorem Tr.subGrow {code:Code} (b:Nat) {sz:Nat} {es es':List (List T)} (hb:look σ b=some (.grow sz es)) (hs:DK es es') (h:Tr P n code env (upd σ b (.grow sz es')) K):Tr P n code env σ K:=by
 intro F hF hrf w g a hg
 exact h F hF hrf w g a ⟨hg.env,SW b hb hs hg.inv,hg.defers,hg.size⟩
theorem Q9 {ι:Type} (I:ι→Prop) (E:ι→Env) (S:ι→St) {code code2:Code} {K2:Exit→Env→St→Prop} (hK: ∀e s,Tr P n code2 e s K2→K .normal e s) (h1:Tr P n code env σ (fun ex e s=>ex=.normal∧ ∃i,I i∧At (E i) (S i) e s)) (h2: ∀i,I i→Tr P n code2 (E i) (S i) K2):Tr P n code env σ K:=
 h1.mono fun ex e s ⟨he,i,hI,ha⟩=>by
  subst he
  exact hK e s ((h2 i hI).weak ha)
theorem Mw {ι:Type} {I:ι→Prop} {E:ι→Env} {S:ι→St} {e:Env} {s:St} (i:ι) (hI:I i) (D:List Nat) (h3:FT (E i) (Jx D e)) (h4:FZ D s=S i):Exit.normal=Exit.normal∧ ∃i,I i∧At (E i) (S i) e s:=⟨rfl,i,hI,D,h3,h4⟩
theorem TW {α:Type}: ∀(l r:List (Nat×α)) (b:Nat),look (l++r) b=match look l b with
  |some x=>some x
  |none=>look r b
 |[],r,b=>by simp[look]
 |(k,x)::l,r,b=>by
  simp only[List.cons_append,A3,TW l r b]
  split<;>rfl
theorem Tr.rotS {code:Code} {b:Nat} {B:Blk} {r:St} (hb:look r b=none) (h:Tr P n code env (r++[(b,B)]) K):Tr P n code env ((b,B)::r) K:=
 Tr.eqS _ (fun d=>by
  rw[TW,A3,A3]
  by_cases e:b=d
  ·subst e;simp[hb]
  ·rw[if_neg e,if_neg e]
   cases look r d<;>simp[look]) h
theorem SO (hp0:ProgOk P c) {t e s0 b0 b sz rl len esz ebb:Nat} {z0 ez:List T} {ek:TK} {xo:Operand} {lo hi:Option Operand} {l h:Nat} {e2:Env} (hg:o.guard=none) (ho:o.op=.slice t xo lo hi none) (hx:ev env xo=some (.row b sz rl len)) (ht:look c.te t=some ⟨s0,b0,z0,.slice e⟩) (he:look c.te e=some ⟨esz,ebb,ez,ek⟩) (hsz:esz=sz)
  (hh:BD env hi len=some h) (hl:BD env lo 0=some l) (h1:h≤len) (h2:l≤h) (hp:BM n o.dst (.row b sz (rl+l) (h-l)) env=some e2) (hk:AQ P n ops rest e2 σ k):AQ P n ops (o::rest) env σ k:=by
 refine Ae hp0 (x:=.row b sz (rl+l) (h-l)) (e:=env) (s:=σ) hg ?_ hp hk
 unfold DN
 rw[ho]
 simp only[Ce,hx,G3,ht,he,hh,hl,if_pos h1,if_pos h2,hsz,if_true]
end
end Go.Am
namespace Go.Am
section
variable {P:Program} {c:Conf} {n:Nat} {ops:Array Oper} {rest:List Oper} {env:Env} {σ:St} {o:Oper} {k:Env→St→Prop} {news:List Nat}
theorem O6 {te:TE} {t e s0 b0 b sz lo len esz ebb kc:Nat} {z0 ez:List T} {ek:TK} {kk:IntKind} {nn:Int} (ht:look te t=some ⟨s0,b0,z0,.slice e⟩) (he:look te e=some ⟨esz,ebb,ez,ek⟩) (hsz:esz=sz) (hn:nn=(kc:Int)) (hlt:kc<len):
  DB te t (.row b sz lo len) (.t (.int kk nn))=some (.eref b sz (lo+kc) 0):=by
 subst hn;subst hsz
 unfold DB
 simp only[EI,ht,he,if_true,if_pos hlt]
theorem EL (hp0:ProgOk P c) {t e s0 b0 b sz lo len esz ebb kc:Nat} {z0 ez:List T} {ek:TK} {kk:IntKind} {nn:Int} {xo io:Operand} {e2:Env} (hg:o.guard=none) (ho:o.op=.indexAddr t xo io) (hx:ev env xo=some (.row b sz lo len)) (hi:ev env io=some (.t (.int kk nn)))
  (ht:look c.te t=some ⟨s0,b0,z0,.slice e⟩) (he:look c.te e=some ⟨esz,ebb,ez,ek⟩) (hsz:esz=sz) (hn:nn=(kc:Int)) (hlt:kc<len) (hp:BM n o.dst (.eref b sz (lo+kc) 0) env=some e2) (h:AQ P n ops rest e2 σ k):AQ P n ops (o::rest) env σ k:=by
 refine Ae hp0 (x:=.eref b sz (lo+kc) 0) (e:=env) (s:=σ) hg ?_ hp h
 unfold DN
 rw[ho]
 simp only[Ce,hx,hi,O6 ht he hsz hn hlt]
theorem NV {t e s0 b0 b sz lo len esz ebb kc:Nat} {z0 ez:List T} {ek:TK} {kk:IntKind} {nn:Int} {xo io:Operand} {e2:Env} (hg:o.guard=none) (ho:o.op=.indexAddr t xo io) (hx:ev env xo=some (.row b sz lo len)) (hi:ev env io=some (.t (.int kk nn)))
  (ht:look c.te t=some ⟨s0,b0,z0,.slice e⟩) (he:look c.te e=some ⟨esz,ebb,ez,ek⟩) (hsz:esz=sz) (hn:nn=(kc:Int)) (hlt:kc<len) (hp:BM n o.dst (.eref b sz (lo+kc) 0) env=some e2) (h:hSK P c n ops news rest e2 σ k):hSK P c n ops news (o::rest) env σ k:=by
 refine AA (x:=.eref b sz (lo+kc) 0) (nb:=[]) hg ?_ rfl hp h
 unfold BX
 rw[ho]
 simp only[Ce,hx,hi,O6 ht he hsz hn hlt]
theorem Rn {te:TE} {t b sz kc off:Nat} {ti:TI} {es:List (List T)} {e:List T} {y:T} (ht:look te t=some ti) (hb:look σ b=some (.grow sz es)) (he:es[kc]?=some e) (ha:ti.kind.agg=false) (hy:e[off]?=some y):GB te t (.eref b sz kc off) σ=some (.t y):=by
 unfold GB
 simp only[ht,hb,if_true,he,ha,hy]
theorem Ac1 (hp0:ProgOk P c) {t b sz kc off:Nat} {ti:TI} {es:List (List T)} {e:List T} {y:T} {xo:Operand} {e2:Env} (hg:o.guard=none) (ho:o.op=.load t xo) (hx:ev env xo=some (.eref b sz kc off)) (ht:look c.te t=some ti) (hb:look σ b=some (.grow sz es)) (he:es[kc]?=some e) (ha:ti.kind.agg=false) (hy:e[off]?=some y) (hp:BM n o.dst (.t y) env=some e2) (h:AQ P n ops rest e2 σ k):AQ P n ops (o::rest) env σ k:=by
 refine Ae hp0 (x:=.t y) (e:=env) (s:=σ) hg ?_ hp h
 unfold DN
 rw[ho]
 simp only[Fg,ho,hx,Rn ht hb he ha hy]
theorem Sa {t b sz kc off:Nat} {ti:TI} {es:List (List T)} {e:List T} {y:T} {xo:Operand} {e2:Env} (hg:o.guard=none) (ho:o.op=.load t xo) (hx:ev env xo=some (.eref b sz kc off)) (hm:Im b news=false) (ht:look c.te t=some ti) (hb:look σ b=some (.grow sz es)) (he:es[kc]?=some e) (ha:ti.kind.agg=false) (hy:e[off]?=some y) (hp:BM n o.dst (.t y) env=some e2) (h:hSK P c n ops news rest e2 σ k):hSK P c n ops news (o::rest) env σ k:=by
 refine AA (x:=.t y) (nb:=[]) hg ?_ rfl hp h
 unfold BX
 rw[ho]
 simp only[hx,O4,hm,Rn ht hb he ha hy]
theorem NC (hp0:ProgOk P c) {t b sz kc off:Nat} {ti:TI} {es:List (List T)} {e:List T} {y:AV} {ts:List T} {po xo:Operand} {env' e2:Env} {σ':St} (hg:o.guard=none) (ho:o.op=.store t po xo) (hz:Ik o env σ=(env',σ')) (hpo:ev env' po=some (.eref b sz kc off)) (hxo:ev env' xo=some y) (ht:look c.te t=some ti) (hc:Ft y=some (Aj ts)) (hat:allT (Aj ts)=some ts) (hl:(Aj ts).length=ti.size)
  (hb:look σ' b=some (.grow sz es)) (he:es[kc]?=some e) (hle:Nat.ble (off+ti.size) sz=true) (hp:BM n o.dst (.t .undef) env'=some e2) (h:AQ P n ops rest e2 (upd σ' b (.grow sz (es.set kc (Fj e off ts)))) k):AQ P n ops (o::rest) env σ k:=by
 have hle':off+ti.size≤sz:=by simpa using hle
 refine Ae hp0 (x:=.t .undef) (e:=env') (s:=upd σ' b (.grow sz (es.set kc (Fj e off ts)))) hg ?_ hp h
 unfold DN
 rw[ho]
 simp only[hz,Fg,ho,hpo,hxo,HX,ht,hc,hl,hb,if_true,he,hat,if_pos hle']
theorem Wh {f:Nat} {xs ys:List AV} {r:AV} (h:Ct P f ys [] r []) (hs:F9 r=true) (hl:H5 σ xs=some ys) {vs:List Value} {w:World} {g:G} (hr:BL w g vs xs) (hi:Inv w g σ):
  Calls P f vs.toArray w fun e w'=> ∃v,e=.returned v∧Ext w g w' g∧Rel w' g v r∧Inv w' g σ∧ ∀v x,Rel w g v x→Rel w' g v x:=by
 refine(h.2 vs w (g.lend σ) (M1 hi hl hr) (U0 hi)).mono ?_
 rintro e w' ⟨v,g',rfl,hx,hv,hi'⟩
 have hkeep: ∀blk,blk<w.heap.size→w'.heap[blk]?=w.heap[blk]?:=fun blk hb=>hx.keep blk hb (fun h=>h)
 have hext:Ext w g w' g:=⟨hx.size,fun blk hb _=>hkeep blk hb,fun _ _ h=>h,fun _ _=>Iff.rfl,hx.shape,fun _ h=>⟨h,rfl⟩,⟨rfl,hx.lo.2⟩,FN (fun _ _ _ _ h=>h) (fun blk e hb _ _=>hkeep blk hb)⟩
 have hmono: ∀v x,Rel w g v x→Rel w' g v x:=fun v x hr=>hr.mono hext.keeps (fun _ _ h=>h) hx.shape
 refine⟨v,rfl,hext,QK hv hs,⟨fun b B hB=>?_,hi.dom,hi.inj,fun blk hb=>Nat.lt_of_lt_of_le (hi.lt blk hb) hx.size,hi.bx,hi.dis,hi.im_of hext.keeps,Nat.le_trans hi.lo hx.size,hi.sx.mono hx.size rfl (fun _ _ _ h=>h) (fun blk e h _ _=>hkeep blk (hi.sx.lt _ _ h)) (fun c blk h=>.inl ⟨c,h⟩) (fun _ _ h=>h)⟩,hmono⟩
 have hok:=hi.ok b B hB
 refine hok.mono rfl (fun _ _ h=>h) (fun blk hb=>hkeep _ ?_) hmono
 exact(DX hi hb).1
theorem EA (hp0:ProgOk P c) {cl:Call} {f:Nat} {as ys:List AV} {e2:Env} {r:AV} (hg:o.guard=none) (ho:o.op=.call cl) (hc:DF c env cl=some (f,as)) (hl:H5 σ as=some ys) (hct:Ct P f ys [] r []) (hs:F9 r=true) (hp:BM n o.dst r env=some e2) (h:AQ P n ops rest e2 σ k):AQ P n ops (o::rest) env σ k:=by
 simp only[AQ,B3,hg]
 intro w g a hi hee
 obtain⟨⟨fn,hf,hb⟩,hca⟩:=id hct
 obtain⟨vs,hrun,hrel⟩:=Dj hp0 hee hc ho hf hb
 refine Cx.enter hrun ?_
 refine(Wh hct hs hl hrel hi).mono ?_
 rintro ed w' ⟨v,rfl,q1,q2,q3,q4⟩
 exact⟨v,rfl,_,_,_,⟨g,q1,q2,q3,hee.mono q4⟩,e2,hp,h⟩
def Amm (ops:Array Oper) (fl:List Nat) (f:Nat):Bool:=Region.noSelect ops&&(Ep ops fl (Array.replicate ops.size false)&&(Jj ops.toList&&Nat.beq ops.size (f+fl.length)))
theorem Gp (hp:ProgOk P c) (fl:List Nat) (f:Nat) {id:Nat} {env1 env':Env} {σ1:St} {K:Exit→Env→St→Prop} (hd:Amm ops fl f=true) (hz:regFrz ops env σ=(env1,σ1)) (hte:Ho c.te n ops fl env1=some env') (hK: ∀ch e s,¬K (.panic ch) e s) (h:PP P n ops f fl env' σ1 (K .normal)):Tr P n (.region id ops true) env σ K:=by
 simp only[Amm,Bool.and_eq_true]at hd
 obtain⟨hns,htk,ha,hsz⟩:=hd
 have hsz:=Nat.eq_of_beq_eq_true hsz
 refine Tr.regFrz env1 σ1 hz ?_
 intro F hF hrf w g a hg
 have hro:F.round=none:=by
  rcases hrf with h|h
  ·exact h
  ·simp[Ka,ha]at h
 have hin: ∀i∈fl,i<(Array.replicate ops.size false).size:=fun i hi=>by
  have key: ∀{l:List Nat} {ar:Array Bool},Ep ops l ar=true→ ∀i∈l,i<ops.size:=by
   intro l
   induction l with
   |nil=>intro _ _ i hi;simp at hi
   |cons x r ih=>
    intro ar ht i hi
    simp only[Ep,Bool.and_eq_true]at ht
    rcases List.mem_cons.1 hi with rfl|hi
    ·have:=List.contains_iff_mem.1 ht.1.2
     unfold Region.ready at this
     rw[List.mem_filter,List.mem_range]at this
     exact this.1
    ·exact ih ht.2 i hi
  simpa using key htk i hi
 have hLi: ∀j,Li (FO fl (Array.replicate ops.size false)) j↔j∈fl:=fun j=>by
  rw[J7 _ _ _ hin];simp[Li,Array.getElem?_replicate]
 refine wpIn_region_any hp.mix ?_
 rw[show wpAnyIn F 0 P .any ops (BH n w g K) ops.size=wpAnyIn F 0 P .any ops (BH n w g K) (f+fl.length)by rw[hsz]]
 refine IM hp.te hro hns hK fl htk hte hg.drew (fun a' hg'=>?_)
 exact RI hF f (by rw[GT];simp) hLi h hg' (Ext.drew w g)
end
theorem PC: ∀{l l':List (List T)} {k:Nat} {x y:List T},DK l l'→l'[k]?=some y→E6 x y→DK (l.set k x) l'
 |[],[],k,x,y,_,h,_=>by simp at h
 |a::r,b::s,0,x,y,h,hk,hx=>by simp at hk;subst hk;exact⟨hx,h.2⟩
 |a::r,b::s,k+1,x,y,h,hk,hx=>⟨h.1,PC h.2 (by simpa using hk) hx⟩
 |[],_::_,_,_,_,h,_,_=>h.elim
 |_::_,[],_,_,_,h,_,_=>h.elim
end Go.Am
namespace Go.Am
section
variable {P:Program} {c:Conf} {n m:Nat} {ops:Array Oper} {news:List Nat}
theorem UB {F:Fence} (hF:IsW F) (hp:ProgOk P c) (hD:DrawOk ops m) {K:Exit→Env→St→Prop} {w0:World} {g0:G} {e:Env} {s:St} {p lab:Nat} {op:Oper} {so xo:Operand} {s0 x0:AV} {B0 B1:Blk}
  (hs0: ∃off,s0=.ref lab off) (hop:ops[p]?=some op) (hpm:p<m) (hd:op.dst=none) (hgd:op.guard=none) (hst0:Kb op.op=true) (hrn:lab∈news)
  (hsolo: ∀i o,i<m→ops[i]?=some o→i≠p→Kb o.op=false)
  (hcr: ∀i o,i<m→ops[i]?=some o→i≠p→lab∈BT o→Pre ops i p∧ ∀cf env σ y nb,BX c cf news o env σ=some (y,nb)→nb=[(lab,B0)])
  (hdo: ∀{w:World} {g:G} {a:Act} {env:Env} {σ:St},Inv w g σ→AY w g a env→ev env so=some s0→ev env xo=some x0→look σ lab=some B0→Cx P op a w (fun v w'=> ∃g',Ext w g w' g'∧Rel w' g' v .top∧AY w' g' a env∧Inv w' g' (upd σ lab B1)))
  (htl:AQ P n ops (ops.toList.drop m) e (upd s lab B1) (K .normal)):
  ∀(fuel:Nat) {listed:Array Bool} {rem:List Nat} {w:World} {g:G} {a:Act} {env:Env} {σ:St},listed.size=ops.size→DC ops listed→(∀i,m≤i→i<ops.size→ ¬Li listed i)→
  (∀i,i∈rem↔i<m∧ ¬Li listed i)→rem.Pairwise (· < ·)→rem.length+(ops.size-m)≤fuel→Fx P c (FV so xo s0 x0) n ops news rem env σ e s→(look σ lab=some B0∨(look σ lab=none∧ ¬Li listed p))→
  (¬Li listed p→Good n w g a env σ)→(Li listed p→Good n w g a env (upd σ lab B1))→Ext w0 g0 w g→
  wpAnyIn F 0 P .any ops (BH n w0 g0 K) fuel listed a w:=by
 intro fuel
 induction fuel with
 |zero=>
  intro listed rem w g a env σ hs hdc hhi hrem hsort hf hruns hρ hg1 hg2 hx
  have hnil:rem=[]:=List.eq_nil_of_length_eq_zero O
  subst hnil
  have hpl:Li listed p:=Classical.byContradiction fun hc=>by have:=(hrem p).2 ⟨hpm,hc⟩;simp at this
  have hg:=hg2 hpl
  have hgs:Good n w g a e (upd s lab B1):=hg.eqv (fun t=>hruns.1 t) (fun b=>by rw[AG,AG,hruns.2 b])
  refine DU hF hD 0 m (Nat.le_refl _) hD.le hs (fun i hi=>⟨fun h=>?_,fun h=>?_⟩) O htl hgs hx
  ·exact Classical.byContradiction fun hc=>hhi i O hi h
  ·exact Classical.byContradiction fun hc=>by have:=(hrem i).2 ⟨h,hc⟩;simp at this
 |succ fuel ih=>
  intro listed rem w g a env σ hs hdc hhi hrem hsort hf hruns hρ hg1 hg2 hx
  by_cases hnil:rem=[]
  ·subst hnil
   have hpl:Li listed p:=Classical.byContradiction fun hc=>by have:=(hrem p).2 ⟨hpm,hc⟩;simp at this
   have hg:=hg2 hpl
   have hgs:Good n w g a e (upd s lab B1):=hg.eqv (fun t=>hruns.1 t) (fun b=>by rw[AG,AG,hruns.2 b])
   refine DU hF hD (fuel+1) m (Nat.le_refl _) hD.le hs (fun i hi=>⟨fun h=>?_,fun h=>?_⟩) (by simp at hf;omega) htl hgs hx
   ·exact Classical.byContradiction fun hc=>hhi i O hi h
   ·exact Classical.byContradiction fun hc=>by have:=(hrem i).2 ⟨h,hc⟩;simp at this
  ·obtain⟨i0,rest,rfl⟩: ∃i0 rest,rem=i0::rest:=List.exists_cons_of_ne_nil hnil
   have hm:=hD.le
   obtain⟨hi0,hn0⟩:=(hrem i0).1 Z
   have hmin: ∀j,j<i0→Li listed j:=fun j hj=>Classical.byContradiction fun hc=>by
    have:=(hrem j).2 ⟨by omega,hc⟩
    simp at this
    rcases this with h'|h'
    ·omega
    ·have:=(List.pairwise_cons.1 hsort).1 j h';omega
   have ho0:ops[i0]?=some ops[i0]:=Array.getElem?_eq_getElem O
   have hin:i0∈Region.ready .any ops listed:=by
    rw[BF hs]
    exact⟨hn0,ops[i0],ho0,fun e he hb=>hmin _ (hD.edge i0 _ ho0 e he hb)⟩
   refine⟨fun hnil=>by rw[hnil]at hin;simp at hin,fun i hi=>?_⟩
   rw[BF hs]at hi
   obtain⟨hn,o,ho,hr⟩:=hi
   have hisz:i<ops.size:=by
    rcases Nat.lt_or_ge i ops.size with h|h
    ·exact h
    ·rw[Array.getElem?_eq_none h]at ho;cases ho
   have hr': ∀o2,ops[i]?=some o2→ ∀e∈o2.after,Region.binds .any e=true→Li listed e.on:=fun o2 ho2=>by rw[ho]at ho2;cases ho2;exact hr
   have him:i<m:=Classical.byContradiction fun hc=>hn0 (Cz hdc (hD.tail i O hisz i0 O) hr')
   have himem:i∈i0::rest:=(hrem i).2 ⟨him,hn⟩
   obtain⟨l1,l2,hsplit⟩:=List.append_of_mem himem
   rw[hsplit]at hruns hsort hrem hf
   have hlt: ∀j∈l1,j<i:=fun j hj=>(List.pairwise_append.1 hsort).2.2 j hj i Z
   have hgt: ∀j∈l2,i<j:=fun j hj=>(List.pairwise_cons.1 (List.pairwise_append.1 hsort).2.1).1 j hj
   have hb:=KG Hq ho (l1:=l1) (l2:=l2) (fun j hj=>by
    obtain⟨hjm,hjn⟩:=(hrem j).1 (by simp[hj])
    have hoj:ops[j]?=some ops[j]:=Array.getElem?_eq_getElem O
    refine⟨ops[j],hoj,?_⟩
    rcases hD.head i o him ho j ops[j] (hlt j hj) hoj with h'|h'
    ·exact absurd (Cz hdc h' hr') hjn
    ·exact h') hruns
   obtain⟨o2,y,nb,e1,s1,q1,q2,q3,q4,q5⟩:=hb
   rw[ho]at q1;cases q1
   have hrem': ∀j,j∈l1++l2↔j<m∧ ¬Li (listed.setIfInBounds i true) j:=by
    intro j
    rw[C9 O]
    have hj:=hrem j
    constructor
    ·intro hmem
     have hne:j≠i:=by
      rcases List.mem_append.1 hmem with h'|h'
      ·have:=hlt j h';omega
      ·have:=hgt j h';omega
     have:=hj.1 (by rcases List.mem_append.1 hmem with h'|h'<;>simp[h'])
     exact⟨this.1,fun hc=>by rcases hc with h'|h';exact hne h';exact this.2 h'⟩
    ·rintro⟨h1,h2⟩
     have hne:j≠i:=fun e=>h2 (.inl e)
     have:=hj.2 ⟨h1,fun hc=>h2 (.inr hc)⟩
     simp at this⊢
     rcases this with h'|h'|h'
     ·exact .inl h'
     ·exact absurd h' hne
     ·exact .inr h'
   have hsort':(l1++l2).Pairwise (· < ·):=by
    refine List.pairwise_append.2 ⟨(List.pairwise_append.1 hsort).1,(List.pairwise_cons.1 (List.pairwise_append.1 hsort).2.1).2,fun x hx y hy=>?_⟩
    have:=hlt x hx;have:=hgt y hy;omega
   have hhi': ∀j,m≤j→j<ops.size→ ¬Li (listed.setIfInBounds i true) j:=fun j hj hjs hc=>by
    rw[C9 O]at hc
    rcases hc with h'|h'
    ·omega
    ·exact hhi j hj hjs h'
   have hes:(∀t,o.dst≠some t→look e1 t=look env t):=fun t ht=>by rw[q4.1 t,if_neg ht]
   have hρL:Li listed p→look σ lab=some B0:=fun hl=>hρ.elim id fun h=>absurd hl h.2
   have hcrL:lab∈BT o→i≠p→ ¬Li listed p:=fun hl hne hp=>hn (Cz hdc (hcr i o him ho hne hl).1 (fun o2 ho2 e he hb=>hdc p o2 ho2 hp e he hb))
   have hρp:i=p→look σ lab=some B0:=fun hip=>by
    subst hip
    rw[hop]at ho;cases ho
    have hg:=hg1 hn
    obtain⟨off,rfl⟩:=hs0
    have hal:ev env so=some (.ref lab off):=by
     rcases q3.2 with⟨_,h1,_⟩|⟨_,cf,_,h3⟩|⟨h1,_⟩
     ·exact h1.2.2.2.1
     ·rw[F0 hst0]at h3;cases h3
     ·unfold Dq at h1;rw[hgd]at h1;cases h1
    have hr:=Bm hg.env hal
    have hsome:(look σ lab).isSome=true:=by
     rw[hg.inv.dom lab]
     generalize a.eval so=v at hr
     cases hr with
     |ref _ _ blk hb=>rw[hb];rfl
    rcases hρ with h|⟨h,_⟩
    ·exact h
    ·rw[h]at hsome;cases hsome
   have hρ1:look s1 lab=some B0∨(look s1 lab=none∧ ¬Li (listed.setIfInBounds i true) p):=by
    rw[q4.2]
    have keep:look σ lab=some B0→look (nb++σ) lab=some B0:=fun hs1=>by
     rcases q3.new with hnb|⟨d,B,hd1,hnb,_,hnone⟩
     ·subst hnb;exact hs1
     ·rw[Bq hnb]
      have hne:2*d≠lab:=fun e=>by rw[e,hs1]at hnone;cases hnone
      rw[if_neg hne];exact hs1
    rcases hρ with hs1|⟨hs1,hs2⟩
    ·exact .inl (keep hs1)
    ·by_cases hip:i=p
     ·exact .inl (keep (hρp hip))
     ·have hnl: ¬Li (listed.setIfInBounds i true) p:=fun hc=>by
       rw[C9 O]at hc
       rcases hc with h'|h'
       ·exact hip h'.symm
       ·exact hs2 h'
      rcases q3.2 with⟨_,h1,_,h3⟩|⟨_,cf,_,h3⟩|⟨_,_,h3⟩
      ·have:=hsolo i o him ho hip;rw[h1.1]at this;cases this
      ·by_cases hl:lab∈BT o
       ·have:=(hcr i o him ho hip hl).2 _ _ _ _ _ h3
        subst this
        exact .inl (by rw[List.singleton_append,A3,if_pos rfl])
       ·rcases NQ h3 with hnb|⟨d,B,hd1,hnb,hl2,_⟩
        ·subst hnb;exact .inr ⟨hs1,hnl⟩
        ·refine .inr ⟨?_,hnl⟩
         rw[Bq hnb]
         have hne:2*d≠lab:=fun e=>hl (by rw[hl2];simp[e])
         rw[if_neg hne];exact hs1
      ·subst h3;exact .inr ⟨hs1,hnl⟩
   have hnext: ∀{w':World} {g':G} {a':Act},(¬Li (listed.setIfInBounds i true) p→Good n w' g' a' e1 s1)→(Li (listed.setIfInBounds i true) p→Good n w' g' a' e1 (upd s1 lab B1))→Ext w0 g0 w' g'→
     wpAnyIn F 0 P .any ops (BH n w0 g0 K) fuel (listed.setIfInBounds i true) a' w':=fun h1 h2 hx1=>
    ih (by simp[hs]) (hdc.set O hr') hhi' hrem' hsort' (by simp at hf⊢;omega) q5 hρ1 h1 h2 hx1
   refine Fy hF ho ?_
   by_cases hip:i=p
   ·
    subst hip
    rw[hop]at ho;cases ho
    have hg:=hg1 hn
    have hwant:Dq ops op env=some true:=by unfold Dq;rw[hgd]
    have halt:FV so xo s0 x0 op env∧y=.top∧nb=[]:=by
     rcases q3.2 with⟨_,h1,h2,h3⟩|⟨_,cf,_,h3⟩|⟨h1,_⟩
     ·exact⟨h1,h2,h3⟩
     ·exfalso;rw[F0 hst0]at h3;cases h3
     ·rw[hwant]at h1;cases h1
    obtain⟨⟨_,_,_,hes0,hex0⟩,rfl,rfl⟩:=halt
    refine .inl ⟨CR hg hwant,?_⟩
    refine hdo hg.inv hg.env hes0 hex0 (hρp rfl) F hF _ _ ?_
    rintro v w' ⟨g',k1,k2,k3,k4⟩
    refine hnext (fun hc=>absurd ((C9 O).2 (.inl rfl)) hc) (fun _=>?_) (hx.trans k1)
    rw[hd]
    have hgp:Good n w' g' a env _:=⟨k3,k4,hg.defers.ext k1,hg.size⟩
    refine hgp.eqv (fun t=>?_) (fun b=>?_)
    ·exact hes t (by rw[hd];simp)
    ·rw[AG,AG,q4.2 b];rfl
   ·have z2:=hsolo i o him ho hip
    have hLi:Li (listed.setIfInBounds i true) p↔Li listed p:=by
     rw[C9 O]
     exact⟨fun h=>h.elim (fun e=>absurd e.symm hip) (fun h=>h),.inr⟩
    have hq:(Dq ops o env=some true∧ ∃cf,IA P cf∧BX c cf news o env σ=some (y,nb))∨(Dq ops o env=some false∧y=.t .undef∧nb=[]):=by
     rcases q3.2 with⟨_,h1,_⟩|h|h
     ·rw[h1.1]at z2;cases z2
     ·exact .inl h
     ·exact .inr h
    have step: ∀{env':Env} {σ':St},(∀t,look env' t=look env t)→(∀b,b≠lab→look σ' b=look σ b)→(∀b∈BT o,look σ' b=look σ b)→Good n w g a env' σ'→
      (∀{w':World} {g':G} {a':Act} {env2:Env} {σ2:St},(∀t,look env2 t=if o.dst=some t then some y else look env' t)→(∀b,look σ2 b=look (nb++σ') b)→Good n w' g' a' env2 σ2→Ext w0 g0 w' g'→wpAnyIn F 0 P .any ops (BH n w0 g0 K) fuel (listed.setIfInBounds i true) a' w')→
      (Region.wanted o (yielded ops a.tmps)=true∧o.wpIn F 0 P a w (wpAnyIn F 0 P .any ops (BH n w0 g0 K) fuel (listed.setIfInBounds i true)) (BH n w0 g0 K))∨(Region.wanted o (yielded ops a.tmps)=false∧wpAnyIn F 0 P .any ops (BH n w0 g0 K) fuel (listed.setIfInBounds i true) (a.put o.dst undef) w):=by
     intro env' σ' hev hst hnw hg hk
     have hl1: ∀t,t∈o.looksAt ops→look env t=look env' t:=fun t _=>(hev t).symm
     have hputg: ∀{w':World} {g':G} {v:Value} {σ2:St},Good n w' g' a env' σ2→Rel w' g' v y→(∀b,look σ2 b=look (nb++σ') b)→Ext w0 g0 w' g'→
       wpAnyIn F 0 P .any ops (BH n w0 g0 K) fuel (listed.setIfInBounds i true) (a.put o.dst v) w':=by
      intro w' g' v σ2 hg1 hrel hs1 hx1
      cases hd1:o.dst with
      |none=>exact hk (env2:=env') (fun t=>by rw[hd1];simp) hs1 hg1 hx1
      |some d=>
       have hlt:=q3.1 d hd1
       have hput:BM n (some d) y env'=some ((d,y)::env'):=by
        simp only[BM]
        have:Nat.blt d n=true:=by simpa[Nat.blt_eq]using hlt
        rw[this]
       exact hk (env2:=(d,y)::env') (fun t=>by rw[hd1,A3];simp) hs1 (C5 hput hg1 hrel) hx1
     rcases hq with⟨hw,cf,hcf,hst1⟩|⟨hw,hy,hnb⟩
     ·refine .inl ⟨CR hg (by rw[←DS hl1];exact hw),?_⟩
      have hst2:BX c cf news o env' σ'=some (y,nb):=by
       rw[←D8 (EX hl1) (fun b hb=>(hst b (fun e=>hb (e▸hrn))).symm) (fun b hb=>(hnw b hb).symm)];exact hst1
      refine EF hp hcf hg.inv hg.env hst2 F hF _ _ ?_
      rintro v w' ⟨g',k1,k2,k3,k4⟩
      exact hputg (σ2:=nb++σ') ⟨k4,k3,hg.defers.ext k1,hg.size⟩ k2 (fun _=>rfl) (hx.trans k1)
     ·refine .inr ⟨CR hg (by rw[←DS hl1];exact hw),?_⟩
      subst hy;subst hnb
      exact hputg (σ2:=σ') hg (.t _ _ .undef) (fun _=>rfl) hx
    have hnbl:Li listed p→ ∀b,b=lab→ ∀σ':St,look (nb++σ') b=look σ' b:=fun hlp b hb σ'=>by
     rcases q3.new with hnb|⟨d,B,hd1,hnb,hl,hnone⟩
     ·subst hnb;rfl
     ·rw[Bq hnb]
      have hne:2*d≠b:=fun e=>by rw[e,hb,hρL hlp]at hnone;cases hnone
      rw[if_neg hne]
    have hnbo: ∀b,∀σ1 σ2:St,look σ1 b=look σ2 b→look (nb++σ1) b=look (nb++σ2) b:=fun b σ1 σ2 h=>by
     rcases q3.new with hnb|⟨d,B,hd1,hnb,hl,hnone⟩
     ·subst hnb;exact h
     ·rw[Bq hnb,Bq hnb,h]
    by_cases hpl:Li listed p
    ·have hg:=hg2 hpl
     refine step (env':=env) (σ':=upd σ lab B1) (fun _=>rfl) (fun b hb=>by rw[AG,if_neg (Ne.symm hb)]) (fun b hb=>by rw[AG,if_neg (fun e=>hcrL (by rw[e];exact hb) hip hpl)]) hg (fun he2 hs2 hg' hx'=>?_)
     refine hnext (fun hc=>absurd (hLi.2 hpl) hc) (fun _=>hg'.eqv (fun t=>?_) (fun b=>?_)) hx'
     ·rw[he2 t,q4.1 t]
     ·rw[hs2 b,AG]
      by_cases e:lab=b
      ·rw[if_pos e,hnbl hpl b e.symm,AG,if_pos e]
      ·rw[if_neg e,q4.2 b]
       exact hnbo b _ _ (by rw[AG,if_neg e])
    ·have hg:=hg1 hpl
     refine step (env':=env) (σ':=σ) (fun _=>rfl) (fun _ _=>rfl) (fun _ _=>rfl) hg (fun he2 hs2 hg' hx'=>?_)
     exact hnext (fun _=>hg'.eqv (fun t=>by rw[he2 t,q4.1 t]) (fun b=>by rw[hs2 b,q4.2 b])) (fun hc=>absurd (hLi.1 hc) hpl) hx'
def Xa (p q:Nat) (lab:Nat):Nat→List Oper→Bool
 |_,[]=>true
 |i,o::r=>(Nat.beq i p||(!Kb o.op&&(Nat.beq i q|| !(BT o).contains lab)))&&Xa p q lab (i+1) r
theorem QI {p q lab:Nat}: ∀{l:List Oper} {i0:Nat},Xa p q lab i0 l=true→ ∀j o,l[j]?=some o→i0+j≠p→Kb o.op=false∧(i0+j=q∨lab∉BT o)
 |[],i0,_,j,o,h,_=>by simp at h
 |x::r,i0,hb,j,o,h,hne=>by
  simp only[Xa,Bool.and_eq_true]at hb
  cases j with
  |zero=>
   simp at h;subst h
   have hb1:=hb.1
   cases hq:Nat.beq i0 p with
   |true=>exact absurd (Nat.eq_of_beq_eq_true hq) hne
   |false=>
    simp only[hq,Bool.false_or,Bool.and_eq_true,Bool.not_eq_true',Bool.or_eq_true]at hb1
    refine⟨hb1.1,hb1.2.elim (fun h=>.inl (Nat.eq_of_beq_eq_true h)) (fun h=>.inr fun hc=>by rw[List.contains_iff_mem.2 hc]at h;cases h)⟩
  |succ j=>simp at h;have:=QI hb.2 j o h O;rwa[show i0+1+j=i0+(j+1)by omega]at this
theorem YZ {cf:Nat→List AV→St→Option (AV×St)} {o:Oper} {t d:Nat} {ti:TI} (ho:o.op=.alloc t) (hd:o.dst=some d) (ht:look c.te t=some ti) {env:Env} {σ:St} {y:AV} {nb:St} (h:BX c cf news o env σ=some (y,nb)):nb=[(2*d,.cells (Aj ti.zero))]:=by
 unfold BX at h
 rw[ho]at h
 simp only[hd,ht]at h
 split at h
 ·simp at h;exact h.2.symm
 ·cases h
def GZ (q:Nat):List Edge→Bool
 |[]=>false
 |e::r=>(Nat.beq e.on q&&Region.binds .any e)||GZ q r
theorem MZ {q:Nat}: ∀{l:List Edge},GZ q l=true→ ∃e∈l,e.on=q∧Region.binds .any e=true
 |[],h=>by simp[GZ]at h
 |e::r,h=>by
  simp only[GZ,Bool.or_eq_true,Bool.and_eq_true]at h
  rcases h with⟨h1,h2⟩|h
  ·exact⟨e,by simp,Nat.eq_of_beq_eq_true h1,h2⟩
  ·obtain⟨e',h1,h2⟩:=MZ h;exact⟨e',by simp[h1],h2⟩
theorem T9 {q p:Nat} {op:Oper} (hop:ops[p]?=some op) (h:GZ q op.after.toList=true):Pre ops q p:=by
 obtain⟨e,h1,rfl,h2⟩:=MZ h
 exact .one p op e hop (by simpa using h1) h2
theorem J4 (hp:ProgOk P c) (p q:Nat) {id d t t':Nat} {env env':Env} {σ σ':St} {K:Exit→Env→St→Prop} {op oq:Oper} {so xo:Operand} {x0:AV} {ys:List AV} {ti ti':TI} {l1 l2 l3:List Oper} {nw:List Nat}
  (hm:Jy ops=some m) (hz:regFrz ops env σ=(env',σ')) (h1:ops.toList.take p=l1) (h2:(ops.toList.take m).drop p=op::l2) (h3:ops.toList.drop m=l3) (ho:op.op=.store t so xo) (hdst:op.dst=none) (hgd:op.guard=none) (hq:ops[q]?=some oq) (hoq:oq.op=.alloc t') (hdq:oq.dst=some d) (hpe:GZ q op.after.toList=true)
  (hsolo:Xa p q (2*d) 0 (ops.toList.take m)=true) (hn:Dc (ops.toList.take m)=nw) (hlab:look σ' (2*d)=none) (ht':look c.te t'=some ti') (ht:look c.te t=some ti) (hl:ys.length=ti.size) (hlc:Nat.ble ti.size (Aj ti'.zero).length=true)
  (h:hSK P c n ops (2*d::nw) l1 env' σ' (fun e1 s1=>ev e1 so=some (.ref (2*d) 0)∧ev e1 xo=some x0∧hSK P c n ops (2*d::nw) l2 e1 s1 (fun e s=>AQ P n ops l3 e (upd s (2*d) (.cells (Fj (Aj ti'.zero) 0 ys))) (K .normal)))) (hy:Ft x0=some ys):
  Tr P n (.region id ops true) env σ K:=by
 subst hn;subst h3
 intro F hF hrf w g0 a hg0
 obtain⟨g,hx,hg⟩:=Eg hz hg0
 have hD:=HM hm
 have hle:=hD.le
 have hpm:p<m:=by
  rcases Nat.lt_or_ge p m with h|h
  ·exact h
  ·rw[List.drop_of_length_le (by simp;omega)]at h2;cases h2
 have hpl:l1.length=p:=by rw[←h1];simp;omega
 have hsplit:ops.toList.take m=l1++op::l2:=by
  rw[←h2,←h1]
  have:=(List.take_append_drop p (ops.toList.take m)).symm
  rwa[List.take_take,Nat.min_eq_left O]at this
 have hml:(ops.toList.take m).length=m:=by simp;omega
 have hll:l1.length+(l2.length+1)=m:=by rw[←hml,hsplit];simp
 have hgl: ∀j,j<m→(l1++op::l2)[j]?=ops[j]?:=fun j hj=>by
  rw[←hsplit,List.getElem?_take,if_pos O,Array.getElem?_toList]
 have hop:ops[p]?=some op:=by
  have:=hgl l1.length O
  rw[List.getElem?_append_right (Nat.le_refl _),Nat.sub_self,hpl]at this
  simpa using this.symm
 have hmem: ∀o,o∈l1++op::l2→ ∀b∈BT o,b∈2*d::Dc (ops.toList.take m):=fun o ho b hb=>List.mem_cons_of_mem _ (EC (by rw[hsplit];exact ho) b hb)
 obtain⟨e1,s1,r1,v1,v2,h⟩:=E2 (alt:=FV so xo (.ref (2*d) 0) x0) l1 0 (fun j hj=>by have:=hgl j O;rw[List.getElem?_append_left hj]at this;rwa[Nat.zero_add]) (fun o ho=>hmem o (by simp[ho])) h
 obtain⟨e,s,r2,htl⟩:=E2 (alt:=FV so xo (.ref (2*d) 0) x0) l2 (p+1) (fun j hj=>by
  have:=hgl (l1.length+1+j) O
  rw[List.getElem?_append_right O,show l1.length+1+j-l1.length=j+1 by omega,List.getElem?_cons_succ,show l1.length+1+j=p+1+j by omega]at this
  exact this) (fun o ho=>hmem o (by simp[ho])) h
 have rp:Fx P c (FV so xo (.ref (2*d) 0) x0) n ops (2*d::Dc (ops.toList.take m)) (p::List.range' (p+1) l2.length) e1 s1 e s:=
  ⟨op,.top,[],e1,s1,hop,hmem op Z,⟨fun d hd1=>(by rw[hdst]at hd1;cases hd1),.inl ⟨by unfold Dq;rw[hgd],⟨by rw[ho];rfl,by simp[ho,Op.operands],by simp[ho,Op.operands],v1,v2⟩,rfl,rfl⟩⟩,⟨fun t=>by rw[hdst];simp,fun _=>rfl⟩,r2⟩
 have hruns:=Fx.app Hq r1 rp
 have hrl:List.range' 0 l1.length++p::List.range' (p+1) l2.length=List.range' 0 m:=by
  have h1:p::List.range' (p+1) l2.length=List.range' p (l2.length+1):=by rw[List.range'_succ]
  rw[h1,←hll,←List.range'_append_1 (s:=0) (m:=l1.length),hpl,Nat.zero_add]
 rw[hrl]at hruns
 refine wpIn_mono ?_ fun ex a2 w2 (hq:BH n w g K ex a2 w2)=>hq.lift hx
 refine wpIn_region_any hp.mix ?_
 have hst:=Mo (lab:=2*d) (off:=0) (cs:=Aj ti'.zero) ht hy hl (by rw[Nat.zero_add];exact hlc)
 have solo: ∀i o,i<m→ops[i]?=some o→i≠p→Kb o.op=false∧(i=q∨2*d∉BT o):=fun i o hi ho' hne=>by
  have:=QI hsolo i o (by rw[List.getElem?_take,if_pos hi,Array.getElem?_toList];exact ho') O
  rwa[Nat.zero_add]at this
 refine UB hF hp hD ⟨0,rfl⟩ hop hpm hdst hgd (by rw[ho];rfl) Z (fun i o hi ho' hne=>(solo i o hi ho' hne).1) (fun i o hi ho' hne hl2=>?_) (fun hi he h1 h2 h3=>Ks hp ho rfl hst hi he h1 h2 h3) htl ops.size Z (fun i o ho hl=>by simp[Li,Array.getElem?_replicate]at hl) (fun i _ _ hl=>by simp[Li,Array.getElem?_replicate]at hl) (rem:=List.range' 0 m) (fun i=>by simp[Li,Array.getElem?_replicate,List.mem_range'_1]) List.pairwise_lt_range' (by simp;omega) hruns (.inr ⟨hlab,fun hc=>by simp[Li,Array.getElem?_replicate]at hc⟩) (fun _=>hg.drew) (fun hc=>by simp[Li,Array.getElem?_replicate]at hc) (Ext.drew w g)
 rcases(solo i o hi ho' hne).2 with rfl|h'
 ·rw[hq]at ho';cases ho'
  exact⟨T9 hop hpe,fun cf env σ y nb h=>YZ hoq hdq ht' h⟩
 ·exact absurd hl2 h'
end
end Go.Am
namespace Go.Am
section
variable {P:Program} {c:Conf} {n:Nat} {ops:Array Oper} {rest:List Oper} {env:Env} {σ:St} {o:Oper} {k:Env→St→Prop} {news:List Nat}
theorem Wg {te:TE} {t b sz kc off:Nat} {ti:TI} {es:List (List T)} {e ys:List T} (ht:look te t=some ti) (hb:look σ b=some (.grow sz es)) (he:es[kc]?=some e) (ha:ti.kind.agg=true) (hy:Ex ti.size (e.drop off)=some ys):GB te t (.eref b sz kc off) σ=some (.agg (Aj ys)):=by
 unfold GB
 simp only[ht,hb,if_true,he,ha,hy]
theorem KM (hp0:ProgOk P c) {t b sz kc off:Nat} {ti:TI} {es:List (List T)} {e ys:List T} {xo:Operand} {e2:Env} (hg:o.guard=none) (ho:o.op=.load t xo) (hx:ev env xo=some (.eref b sz kc off)) (ht:look c.te t=some ti) (hb:look σ b=some (.grow sz es)) (he:es[kc]?=some e) (ha:ti.kind.agg=true) (hy:Ex ti.size (e.drop off)=some ys) (hp:BM n o.dst (.agg (Aj ys)) env=some e2) (h:AQ P n ops rest e2 σ k):AQ P n ops (o::rest) env σ k:=by
 refine Ae hp0 (x:=.agg (Aj ys)) (e:=env) (s:=σ) hg ?_ hp h
 unfold DN
 rw[ho]
 simp only[Fg,ho,hx,Wg ht hb he ha hy]
theorem H4 {es:List (List T)} {b sz m:Nat} {x:T} (h:look σ b=some (.grow sz es)) (hm:m=es.length):H5 σ [.row b sz 0 m,.t x]=some [.t (.slice .any sz es),.t x]:=by
 subst hm
 have t1:es.take es.length=es:=List.take_of_length_le (Nat.le_refl _)
 have t2:es.length.ble es.length=true:=by simp
 simp[H5,GY,h,t1,t2]
end
end Go.Am
namespace Go.Am
section
variable {P:Program} {c:Conf} {n:Nat} {ops:Array Oper} {rest:List Oper} {env:Env} {σ:St} {o:Oper} {k:Env→St→Prop}
theorem Tr.frzRow {code:Code} {K:Exit→Env→St→Prop} (b:Nat) {sz:Nat} {es:List (List T)} (hb:look σ b=some (.grow sz es)) (h:Tr P n code (H9 b sz es env) (Fh b sz es σ) K):Tr P n code env σ K:=by
 intro F hF hrf w g a hg
 obtain⟨k1,k2,k3⟩:=freeze hg.inv hb
 refine wpIn_mono (h F hF hrf w _ a ⟨fun t x hx=>?_,k2,hg.defers.ext k1,hg.size⟩) fun ex a2 w2 hq=>hq.lift k1
 rw[E3]at hx
 cases hl:look env t with
 |none=>simp[hl]at hx
 |some z=>simp[hl]at hx;subst hx;exact k3 _ _ (hg.env t z hl)
theorem E0 (t b:Nat) {sz:Nat} {es:List (List T)} {y y':AV} (hg:o.guard=none) (hb:look σ b=some (.grow sz es)) (hy:look env t=some y) (hy':BA b sz es y=y') (h:AQ P n ops (o::rest) ((t,y')::H9 b sz es env) (Fh b sz es σ) k):AQ P n ops (o::rest) env σ k:=by
 simp only[AQ,B3,hg]at h⊢
 intro w g a hi he
 obtain⟨k1,k2,k3⟩:=freeze hi hb
 refine(h w _ a k2 (fun t' x hx=>?_)).mono ?_
 ·rw[A3]at hx
  split at hx
  ·rename_i e;subst e;cases hx;rw[←hy'];exact k3 _ _ (he t y hy)
  ·rw[E3]at hx
   cases hl:look env t' with
   |none=>simp[hl]at hx
   |some z=>simp[hl]at hx;subst hx;exact k3 _ _ (he t' z hl)
 ·rintro v w' ⟨x,e,s,hp,hk⟩
  exact⟨x,e,s,hp.lift k1,hk⟩
end
end Go.Am
namespace Go.Am
section
variable {P:Program} {c:Conf} {n:Nat} {ops:Array Oper} {rest:List Oper} {env:Env} {σ:St} {o:Oper} {k:Env→St→Prop} {news:List Nat}
theorem Rx {te:TE} {t s0 b0:Nat} {z0:List T} {s:List UInt8} {kk:IntKind} {nn:Int} {kc:Nat} {cc:UInt8} (ht:look te t=some ⟨s0,b0,z0,.string⟩) (hn:nn=(kc:Int)) (hc:s[kc]?=some cc):O5 te t (.t (.str s)) (.t (.int kk nn))=some (.t (.int .u8 (cc.toNat:Int))):=by
 subst hn
 simp only[O5,EI,ht,hc]
theorem IJ (hp0:ProgOk P c) {t s0 b0:Nat} {z0:List T} {xo io:Operand} {s:List UInt8} {kk:IntKind} {nn:Int} {kc:Nat} {cc:UInt8} {e2:Env} (hg:o.guard=none) (ho:o.op=.index t xo io) (hx:ev env xo=some (.t (.str s)))
  (hi:ev env io=some (.t (.int kk nn))) (ht:look c.te t=some ⟨s0,b0,z0,.string⟩) (hn:nn=(kc:Int)) (hc:s[kc]?=some cc) (hp:BM n o.dst (.t (.int .u8 (cc.toNat:Int))) env=some e2)
  (h:AQ P n ops rest e2 σ k):AQ P n ops (o::rest) env σ k:=by
 refine Ae hp0 (x:=.t (.int .u8 (cc.toNat:Int))) (e:=env) (s:=σ) hg ?_ hp h
 unfold DN
 rw[ho]
 simp only[Ce,hx,hi,Rx ht hn hc]
theorem Ln {t s0 b0:Nat} {z0:List T} {xo io:Operand} {s:List UInt8} {kk:IntKind} {nn:Int} {kc:Nat} {cc:UInt8} {e2:Env} (hg:o.guard=none) (ho:o.op=.index t xo io) (hx:ev env xo=some (.t (.str s)))
  (hi:ev env io=some (.t (.int kk nn))) (ht:look c.te t=some ⟨s0,b0,z0,.string⟩) (hn:nn=(kc:Int)) (hc:s[kc]?=some cc) (hp:BM n o.dst (.t (.int .u8 (cc.toNat:Int))) env=some e2)
  (h:hSK P c n ops news rest e2 σ k):hSK P c n ops news (o::rest) env σ k:=by
 refine AA (x:=.t (.int .u8 (cc.toNat:Int))) (nb:=[]) hg ?_ rfl hp h
 unfold BX
 rw[ho]
 simp only[Ce,hx,hi,Rx ht hn hc]
theorem VE {te:TE} {t s0 b0:Nat} {z0:List T} {s:List UInt8} {lo hi:Option Operand} {l h:Nat} (ht:look te t=some ⟨s0,b0,z0,.string⟩) (hh:BD env hi s.length=some h) (hl:BD env lo 0=some l) (h1:h≤s.length) (h2:l≤h):G3 te t (.t (.str s)) env lo hi none=some (.t (.str ((s.drop l).take (h-l)))):=by
 unfold G3
 simp only[ht,hh,hl,if_pos h1,if_pos h2]
theorem ND (hp0:ProgOk P c) {t s0 b0:Nat} {z0:List T} {xo:Operand} {s r:List UInt8} {lo hi:Option Operand} {l h:Nat} {e2:Env} (hg:o.guard=none) (ho:o.op=.slice t xo lo hi none) (hx:ev env xo=some (.t (.str s))) (ht:look c.te t=some ⟨s0,b0,z0,.string⟩)
  (hh:BD env hi s.length=some h) (hl:BD env lo 0=some l) (h1:h≤s.length) (h2:l≤h) (hr:(s.drop l).take (h-l)=r) (hp:BM n o.dst (.t (.str r)) env=some e2)
  (hk:AQ P n ops rest e2 σ k):AQ P n ops (o::rest) env σ k:=by
 subst hr
 refine Ae hp0 (x:=.t (.str ((s.drop l).take (h-l)))) (e:=env) (s:=σ) hg ?_ hp hk
 unfold DN
 rw[ho]
 simp only[Ce,hx,VE ht hh hl h1 h2]
end
end Go.Am
namespace Go.Am
def Yx:Op→Bool
 |.load _ _=>true
 |_=>false
section
variable {P:Program} {c:Conf} {n m:Nat} {ops:Array Oper} {news:List Nat}
theorem VA {cf:Nat→List AV→St→Option (AV×St)} {o:Oper} {env:Env} {σ:St} {nw:List Nat} (h:Yx o.op=false) (news:List Nat):BX c cf news o env σ=BX c cf nw o env σ:=by
 cases ho:o.op with
 |load t p=>rw[ho]at h;simp[Yx]at h
 |_=>unfold BX;rw[ho]
theorem UA {F:Fence} (hF:IsW F) (hp:ProgOk P c) (hD:DrawOk ops m) {K:Exit→Env→St→Prop} {w0:World} {g0:G} {e:Env} {s:St} {p lab:Nat} {op:Oper} {so xo:Operand} {s0 x0:AV} {B0 B1:Blk}
  (hop:ops[p]?=some op) (hpm:p<m) (hd:op.dst=none) (hgd:op.guard=none) (hst0:Kb op.op=true)
  (hsolo: ∀i o,i<m→ops[i]?=some o→i≠p→Kb o.op=false∧lab∉BT o∧(Yx o.op=false∨Pre ops i p))
  (hdo: ∀{w:World} {g:G} {a:Act} {env:Env} {σ:St},Inv w g σ→AY w g a env→ev env so=some s0→ev env xo=some x0→look σ lab=some B0→Cx P op a w (fun v w'=> ∃g',Ext w g w' g'∧Rel w' g' v .top∧AY w' g' a env∧Inv w' g' (upd σ lab B1)))
  (htl:AQ P n ops (ops.toList.drop m) e (upd s lab B1) (K .normal)):
  ∀(fuel:Nat) {listed:Array Bool} {rem:List Nat} {w:World} {g:G} {a:Act} {env:Env} {σ:St},listed.size=ops.size→DC ops listed→(∀i,m≤i→i<ops.size→ ¬Li listed i)→
  (∀i,i∈rem↔i<m∧ ¬Li listed i)→rem.Pairwise (· < ·)→rem.length+(ops.size-m)≤fuel→Fx P c (FV so xo s0 x0) n ops news rem env σ e s→look σ lab=some B0→
  (¬Li listed p→Good n w g a env σ)→(Li listed p→Good n w g a env (upd σ lab B1))→Ext w0 g0 w g→
  wpAnyIn F 0 P .any ops (BH n w0 g0 K) fuel listed a w:=by
 intro fuel
 induction fuel with
 |zero=>
  intro listed rem w g a env σ hs hdc hhi hrem hsort hf hruns hρ hg1 hg2 hx
  have hnil:rem=[]:=List.eq_nil_of_length_eq_zero O
  subst hnil
  have hpl:Li listed p:=Classical.byContradiction fun hc=>by have:=(hrem p).2 ⟨hpm,hc⟩;simp at this
  have hg:=hg2 hpl
  have hgs:Good n w g a e (upd s lab B1):=hg.eqv (fun t=>hruns.1 t) (fun b=>by rw[AG,AG,hruns.2 b])
  refine DU hF hD 0 m (Nat.le_refl _) hD.le hs (fun i hi=>⟨fun h=>?_,fun h=>?_⟩) O htl hgs hx
  ·exact Classical.byContradiction fun hc=>hhi i O hi h
  ·exact Classical.byContradiction fun hc=>by have:=(hrem i).2 ⟨h,hc⟩;simp at this
 |succ fuel ih=>
  intro listed rem w g a env σ hs hdc hhi hrem hsort hf hruns hρ hg1 hg2 hx
  by_cases hnil:rem=[]
  ·subst hnil
   have hpl:Li listed p:=Classical.byContradiction fun hc=>by have:=(hrem p).2 ⟨hpm,hc⟩;simp at this
   have hg:=hg2 hpl
   have hgs:Good n w g a e (upd s lab B1):=hg.eqv (fun t=>hruns.1 t) (fun b=>by rw[AG,AG,hruns.2 b])
   refine DU hF hD (fuel+1) m (Nat.le_refl _) hD.le hs (fun i hi=>⟨fun h=>?_,fun h=>?_⟩) (by simp at hf;omega) htl hgs hx
   ·exact Classical.byContradiction fun hc=>hhi i O hi h
   ·exact Classical.byContradiction fun hc=>by have:=(hrem i).2 ⟨h,hc⟩;simp at this
  ·obtain⟨i0,rest,rfl⟩: ∃i0 rest,rem=i0::rest:=List.exists_cons_of_ne_nil hnil
   have hm:=hD.le
   obtain⟨hi0,hn0⟩:=(hrem i0).1 Z
   have hmin: ∀j,j<i0→Li listed j:=fun j hj=>Classical.byContradiction fun hc=>by
    have:=(hrem j).2 ⟨by omega,hc⟩
    simp at this
    rcases this with h'|h'
    ·omega
    ·have:=(List.pairwise_cons.1 hsort).1 j h';omega
   have ho0:ops[i0]?=some ops[i0]:=Array.getElem?_eq_getElem O
   have hin:i0∈Region.ready .any ops listed:=by
    rw[BF hs]
    exact⟨hn0,ops[i0],ho0,fun e he hb=>hmin _ (hD.edge i0 _ ho0 e he hb)⟩
   refine⟨fun hnil=>by rw[hnil]at hin;simp at hin,fun i hi=>?_⟩
   rw[BF hs]at hi
   obtain⟨hn,o,ho,hr⟩:=hi
   have hisz:i<ops.size:=by
    rcases Nat.lt_or_ge i ops.size with h|h
    ·exact h
    ·rw[Array.getElem?_eq_none h]at ho;cases ho
   have hr': ∀o2,ops[i]?=some o2→ ∀e∈o2.after,Region.binds .any e=true→Li listed e.on:=fun o2 ho2=>by rw[ho]at ho2;cases ho2;exact hr
   have him:i<m:=Classical.byContradiction fun hc=>hn0 (Cz hdc (hD.tail i O hisz i0 O) hr')
   have himem:i∈i0::rest:=(hrem i).2 ⟨him,hn⟩
   obtain⟨l1,l2,hsplit⟩:=List.append_of_mem himem
   rw[hsplit]at hruns hsort hrem hf
   have hlt: ∀j∈l1,j<i:=fun j hj=>(List.pairwise_append.1 hsort).2.2 j hj i Z
   have hgt: ∀j∈l2,i<j:=fun j hj=>(List.pairwise_cons.1 (List.pairwise_append.1 hsort).2.1).1 j hj
   have hb:=KG Hq ho (l1:=l1) (l2:=l2) (fun j hj=>by
    obtain⟨hjm,hjn⟩:=(hrem j).1 (by simp[hj])
    have hoj:ops[j]?=some ops[j]:=Array.getElem?_eq_getElem O
    refine⟨ops[j],hoj,?_⟩
    rcases hD.head i o him ho j ops[j] (hlt j hj) hoj with h'|h'
    ·exact absurd (Cz hdc h' hr') hjn
    ·exact h') hruns
   obtain⟨o2,y,nb,e1,s1,q1,q2,q3,q4,q5⟩:=hb
   rw[ho]at q1;cases q1
   have hrem': ∀j,j∈l1++l2↔j<m∧ ¬Li (listed.setIfInBounds i true) j:=by
    intro j
    rw[C9 O]
    have hj:=hrem j
    constructor
    ·intro hmem
     have hne:j≠i:=by
      rcases List.mem_append.1 hmem with h'|h'
      ·have:=hlt j h';omega
      ·have:=hgt j h';omega
     have:=hj.1 (by rcases List.mem_append.1 hmem with h'|h'<;>simp[h'])
     exact⟨this.1,fun hc=>by rcases hc with h'|h';exact hne h';exact this.2 h'⟩
    ·rintro⟨h1,h2⟩
     have hne:j≠i:=fun e=>h2 (.inl e)
     have:=hj.2 ⟨h1,fun hc=>h2 (.inr hc)⟩
     simp at this⊢
     rcases this with h'|h'|h'
     ·exact .inl h'
     ·exact absurd h' hne
     ·exact .inr h'
   have hsort':(l1++l2).Pairwise (· < ·):=by
    refine List.pairwise_append.2 ⟨(List.pairwise_append.1 hsort).1,(List.pairwise_cons.1 (List.pairwise_append.1 hsort).2.1).2,fun x hx y hy=>?_⟩
    have:=hlt x hx;have:=hgt y hy;omega
   have hhi': ∀j,m≤j→j<ops.size→ ¬Li (listed.setIfInBounds i true) j:=fun j hj hjs hc=>by
    rw[C9 O]at hc
    rcases hc with h'|h'
    ·omega
    ·exact hhi j hj hjs h'
   have hes:(∀t,o.dst≠some t→look e1 t=look env t):=fun t ht=>by rw[q4.1 t,if_neg ht]
   have hρ1:look s1 lab=some B0:=by
    rw[q4.2]
    rcases q3.new with hnb|⟨d,B,hd1,hnb,_,hnone⟩
    ·subst hnb;exact hρ
    ·rw[Bq hnb]
     have hne:2*d≠lab:=fun e=>by rw[e,hρ]at hnone;cases hnone
     rw[if_neg hne];exact hρ
   have hnext: ∀{w':World} {g':G} {a':Act},(¬Li (listed.setIfInBounds i true) p→Good n w' g' a' e1 s1)→(Li (listed.setIfInBounds i true) p→Good n w' g' a' e1 (upd s1 lab B1))→Ext w0 g0 w' g'→
     wpAnyIn F 0 P .any ops (BH n w0 g0 K) fuel (listed.setIfInBounds i true) a' w':=fun h1 h2 hx1=>
    ih (by simp[hs]) (hdc.set O hr') hhi' hrem' hsort' (by simp at hf⊢;omega) q5 hρ1 h1 h2 hx1
   refine Fy hF ho ?_
   by_cases hip:i=p
   ·
    subst hip
    rw[hop]at ho;cases ho
    have hg:=hg1 hn
    have hwant:Dq ops op env=some true:=by unfold Dq;rw[hgd]
    have halt:FV so xo s0 x0 op env∧y=.top∧nb=[]:=by
     rcases q3.2 with⟨_,h1,h2,h3⟩|⟨_,cf,_,h3⟩|⟨h1,_⟩
     ·exact⟨h1,h2,h3⟩
     ·exfalso;rw[F0 hst0]at h3;cases h3
     ·rw[hwant]at h1;cases h1
    obtain⟨⟨_,_,_,hes0,hex0⟩,rfl,rfl⟩:=halt
    refine .inl ⟨CR hg hwant,?_⟩
    refine hdo hg.inv hg.env hes0 hex0 hρ F hF _ _ ?_
    rintro v w' ⟨g',k1,k2,k3,k4⟩
    refine hnext (fun hc=>absurd ((C9 O).2 (.inl rfl)) hc) (fun _=>?_) (hx.trans k1)
    rw[hd]
    have hgp:Good n w' g' a env _:=⟨k3,k4,hg.defers.ext k1,hg.size⟩
    refine hgp.eqv (fun t=>?_) (fun b=>?_)
    ·exact hes t (by rw[hd];simp)
    ·rw[AG,AG,q4.2 b];rfl
   ·obtain⟨z2,z3,z4⟩:=hsolo i o him ho hip
    have hLi:Li (listed.setIfInBounds i true) p↔Li listed p:=by
     rw[C9 O]
     exact⟨fun h=>h.elim (fun e=>absurd e.symm hip) (fun h=>h),.inr⟩
    have hq:(Dq ops o env=some true∧ ∃cf,IA P cf∧BX c cf news o env σ=some (y,nb))∨(Dq ops o env=some false∧y=.t .undef∧nb=[]):=by
     rcases q3.2 with⟨_,h1,_⟩|h|h
     ·rw[h1.1]at z2;cases z2
     ·exact .inl h
     ·exact .inr h
    have step: ∀{env':Env} {σ':St},(∀t,look env' t=look env t)→(∀b,b≠lab→look σ' b=look σ b)→(Yx o.op=false∨ ∀b,look σ' b=look σ b)→Good n w g a env' σ'→
      (∀{w':World} {g':G} {a':Act} {env2:Env} {σ2:St},(∀t,look env2 t=if o.dst=some t then some y else look env' t)→(∀b,look σ2 b=look (nb++σ') b)→Good n w' g' a' env2 σ2→Ext w0 g0 w' g'→wpAnyIn F 0 P .any ops (BH n w0 g0 K) fuel (listed.setIfInBounds i true) a' w')→
      (Region.wanted o (yielded ops a.tmps)=true∧o.wpIn F 0 P a w (wpAnyIn F 0 P .any ops (BH n w0 g0 K) fuel (listed.setIfInBounds i true)) (BH n w0 g0 K))∨(Region.wanted o (yielded ops a.tmps)=false∧wpAnyIn F 0 P .any ops (BH n w0 g0 K) fuel (listed.setIfInBounds i true) (a.put o.dst undef) w):=by
     intro env' σ' hev hst hld hg hk
     have hl1: ∀t,t∈o.looksAt ops→look env t=look env' t:=fun t _=>(hev t).symm
     have hputg: ∀{w':World} {g':G} {v:Value} {σ2:St},Good n w' g' a env' σ2→Rel w' g' v y→(∀b,look σ2 b=look (nb++σ') b)→Ext w0 g0 w' g'→
       wpAnyIn F 0 P .any ops (BH n w0 g0 K) fuel (listed.setIfInBounds i true) (a.put o.dst v) w':=by
      intro w' g' v σ2 hg1 hrel hs1 hx1
      cases hd1:o.dst with
      |none=>exact hk (env2:=env') (fun t=>by rw[hd1];simp) hs1 hg1 hx1
      |some d=>
       have hlt:=q3.1 d hd1
       have hput:BM n (some d) y env'=some ((d,y)::env'):=by
        simp only[BM]
        have:Nat.blt d n=true:=by simpa[Nat.blt_eq]using hlt
        rw[this]
       exact hk (env2:=(d,y)::env') (fun t=>by rw[hd1,A3];simp) hs1 (C5 hput hg1 hrel) hx1
     rcases hq with⟨hw,cf,hcf,hst1⟩|⟨hw,hy,hnb⟩
     ·refine .inl ⟨CR hg (by rw[←DS hl1];exact hw),?_⟩
      have hst2: ∃nw,BX c cf nw o env' σ'=some (y,nb):=by
       rcases hld with hld|hld
       ·refine⟨lab::news,?_⟩
        rw[VA hld news]at hst1
        rw[←D8 (news:=lab::news) (EX hl1) (fun b hb=>(hst b (fun e=>hb (by simp[e]))).symm) (fun b hb=>(hst b (fun e=>z3 (e▸hb))).symm)];exact hst1
       ·exact⟨news,by rw[←D8 (EX hl1) (fun b _=>(hld b).symm) (fun b _=>(hld b).symm)];exact hst1⟩
      obtain⟨nw,hst2⟩:=hst2
      refine EF hp hcf hg.inv hg.env hst2 F hF _ _ ?_
      rintro v w' ⟨g',k1,k2,k3,k4⟩
      exact hputg (σ2:=nb++σ') ⟨k4,k3,hg.defers.ext k1,hg.size⟩ k2 (fun _=>rfl) (hx.trans k1)
     ·refine .inr ⟨CR hg (by rw[←DS hl1];exact hw),?_⟩
      subst hy;subst hnb
      exact hputg (σ2:=σ') hg (.t _ _ .undef) (fun _=>rfl) hx
    have hnbl: ∀b,b=lab→ ∀σ':St,look (nb++σ') b=look σ' b:=fun b hb σ'=>by
     rcases q3.new with hnb|⟨d,B,hd1,hnb,hl,hnone⟩
     ·subst hnb;rfl
     ·rw[Bq hnb]
      have hne:2*d≠b:=fun e=>by rw[e,hb,hρ]at hnone;cases hnone
      rw[if_neg hne]
    have hnbo: ∀b,∀σ1 σ2:St,look σ1 b=look σ2 b→look (nb++σ1) b=look (nb++σ2) b:=fun b σ1 σ2 h=>by
     rcases q3.new with hnb|⟨d,B,hd1,hnb,hl,hnone⟩
     ·subst hnb;exact h
     ·rw[Bq hnb,Bq hnb,h]
    by_cases hpl:Li listed p
    ·have hg:=hg2 hpl
     refine step (env':=env) (σ':=upd σ lab B1) (fun _=>rfl) (fun b hb=>by rw[AG,if_neg (Ne.symm hb)]) (.inl (z4.resolve_right fun h=>hn (Oj hdc h hpl))) hg (fun he2 hs2 hg' hx'=>?_)
     refine hnext (fun hc=>absurd (hLi.2 hpl) hc) (fun _=>hg'.eqv (fun t=>?_) (fun b=>?_)) hx'
     ·rw[he2 t,q4.1 t]
     ·rw[hs2 b,AG]
      by_cases e:lab=b
      ·rw[if_pos e,hnbl b e.symm,AG,if_pos e]
      ·rw[if_neg e,q4.2 b]
       exact hnbo b _ _ (by rw[AG,if_neg e])
    ·have hg:=hg1 hpl
     refine step (env':=env) (σ':=σ) (fun _=>rfl) (fun _ _=>rfl) (.inr fun _=>rfl) hg (fun he2 hs2 hg' hx'=>?_)
     exact hnext (fun _=>hg'.eqv (fun t=>by rw[he2 t,q4.1 t]) (fun b=>by rw[hs2 b,q4.2 b])) (fun hc=>absurd (hLi.1 hc) hpl) hx'
def Tb (lab p:Nat) (es:List Edge):Nat→List Oper→Bool
 |_,[]=>true
 |i,o::r=>(Nat.beq i p||(!Kb o.op&&(!(BT o).contains lab&&(!Yx o.op||GZ i es))))&&Tb lab p es (i+1) r
theorem QH {lab p:Nat} {es:List Edge}: ∀{l:List Oper} {i0:Nat},Tb lab p es i0 l=true→ ∀j o,l[j]?=some o→i0+j≠p→Kb o.op=false∧lab∉BT o∧(Yx o.op=false∨GZ (i0+j) es=true)
 |[],i0,_,j,o,h,_=>by simp at h
 |x::r,i0,hb,j,o,h,hne=>by
  simp only[Tb,Bool.and_eq_true]at hb
  cases j with
  |zero=>
   simp at h;subst h
   have hb1:=hb.1
   cases hq:Nat.beq i0 p with
   |true=>exact absurd (Nat.eq_of_beq_eq_true hq) hne
   |false=>
    simp only[hq,Bool.false_or,Bool.and_eq_true,Bool.not_eq_true',Bool.or_eq_true]at hb1
    exact⟨hb1.1,(fun hc=>by rw[List.contains_iff_mem.2 hc]at hb1;exact absurd hb1.2.1 Z),hb1.2.2⟩
  |succ j=>
   simp at h
   have:=QH hb.2 j o h O
   rwa[show i0+1+j=i0+(j+1)by omega]at this
theorem Ahn (hp:ProgOk P c) {id p lab off t:Nat} {env env':Env} {σ σ':St} {K:Exit→Env→St→Prop} {op:Oper} {so xo:Operand} {x0:AV} {cs:List AV} {B1:Blk} {l1 l2:List Oper}
  (hm:Jy ops=some m) (hz:regFrz ops env σ=(env',σ')) (hsplit:ops.toList.take m=l1++op::l2) (hlen:l1.length=p) (ho:op.op=.store t so xo) (hdst:op.dst=none) (hgd:op.guard=none) (hsolo:Tb lab p op.after.toList 0 (ops.toList.take m)=true)
  (hlab:look σ' lab=some (.cells cs)) (hsv: ∀σ,look σ lab=some (.cells cs)→HX c.te t (.ref lab off) x0 σ=some (upd σ lab B1))
  (h:hSK P c n ops (Dc (ops.toList.take m)) l1 env' σ' (fun e1 s1=>ev e1 so=some (.ref lab off)∧ev e1 xo=some x0∧hSK P c n ops (Dc (ops.toList.take m)) l2 e1 s1 (fun e s=>AQ P n ops (ops.toList.drop m) e (upd s lab B1) (K .normal)))):
  Tr P n (.region id ops true) env σ K:=by
 intro F hF hrf w g0 a hg0
 obtain⟨g,hx,hg⟩:=Eg hz hg0
 have hD:=HM hm
 have hle:=hD.le
 have hml:(ops.toList.take m).length=m:=by simp;omega
 have hll:l1.length+(l2.length+1)=m:=by rw[←hml,hsplit];simp
 have hgl: ∀j,j<m→(l1++op::l2)[j]?=ops[j]?:=fun j hj=>by
  rw[←hsplit,List.getElem?_take,if_pos O,Array.getElem?_toList]
 have hop:ops[p]?=some op:=by
  have:=hgl l1.length O
  rw[List.getElem?_append_right (Nat.le_refl _),Nat.sub_self,hlen]at this
  simpa using this.symm
 have hmem: ∀o,o∈l1++op::l2→ ∀b∈BT o,b∈Dc (ops.toList.take m):=fun o ho b hb=>EC (by rw[hsplit];exact ho) b hb
 obtain⟨e1,s1,r1,v1,v2,h⟩:=E2 (alt:=FV so xo (.ref lab off) x0) l1 0 (fun j hj=>by have:=hgl j O;rw[List.getElem?_append_left hj]at this;rwa[Nat.zero_add]) (fun o ho=>hmem o (by simp[ho])) h
 obtain⟨e,s,r2,htl⟩:=E2 (alt:=FV so xo (.ref lab off) x0) l2 (p+1) (fun j hj=>by
  have:=hgl (l1.length+1+j) O
  rw[List.getElem?_append_right O,show l1.length+1+j-l1.length=j+1 by omega,List.getElem?_cons_succ,show l1.length+1+j=p+1+j by omega]at this
  exact this) (fun o ho=>hmem o (by simp[ho])) h
 have rp:Fx P c (FV so xo (.ref lab off) x0) n ops (Dc (ops.toList.take m)) (p::List.range' (p+1) l2.length) e1 s1 e s:=
  ⟨op,.top,[],e1,s1,hop,hmem op Z,⟨fun d hd1=>(by rw[hdst]at hd1;cases hd1),.inl ⟨by unfold Dq;rw[hgd],⟨by rw[ho];rfl,by simp[ho,Op.operands],by simp[ho,Op.operands],v1,v2⟩,rfl,rfl⟩⟩,⟨fun t=>by rw[hdst];simp,fun _=>rfl⟩,r2⟩
 have hruns:=Fx.app Hq r1 rp
 have hrl:List.range' 0 l1.length++p::List.range' (p+1) l2.length=List.range' 0 m:=by
  have h1:p::List.range' (p+1) l2.length=List.range' p (l2.length+1):=by rw[List.range'_succ]
  rw[h1,←hll,←List.range'_append_1 (s:=0) (m:=l1.length),hlen,Nat.zero_add]
 rw[hrl]at hruns
 refine wpIn_mono ?_ fun ex a2 w2 (hq:BH n w g K ex a2 w2)=>hq.lift hx
 refine wpIn_region_any hp.mix ?_
 refine UA hF hp hD hop O hdst hgd (by rw[ho];rfl) (fun i o hi ho' hne=>?_) (fun hi he h1 h2 h3=>Ks hp ho rfl hsv hi he h1 h2 h3) htl ops.size Z (fun i o ho hl=>by simp[Li,Array.getElem?_replicate]at hl) (fun i _ _ hl=>by simp[Li,Array.getElem?_replicate]at hl) (rem:=List.range' 0 m) (fun i=>by simp[Li,Array.getElem?_replicate,List.mem_range'_1]) List.pairwise_lt_range' (by simp;omega) hruns hlab (fun _=>hg.drew) (fun hc=>by simp[Li,Array.getElem?_replicate]at hc) (Ext.drew w g)
 obtain⟨z1,z2,z3⟩:=QH hsolo i o (by rw[List.getElem?_take,if_pos hi,Array.getElem?_toList];exact ho') O
 exact⟨z1,z2,z3.imp (fun h=>h) fun h=>T9 hop (by rwa[Nat.zero_add]at h)⟩
theorem RK (hp:ProgOk P c) (p:Nat) {id lab off t:Nat} {env env':Env} {σ σ':St} {K:Exit→Env→St→Prop} {op:Oper} {so xo:Operand} {x0:AV} {cs ys:List AV} {ti:TI} {l1 l2 l3:List Oper} {news:List Nat}
  (hm:Jy ops=some m) (hz:regFrz ops env σ=(env',σ')) (h1:ops.toList.take p=l1) (h2:(ops.toList.take m).drop p=op::l2) (h3:ops.toList.drop m=l3) (ho:op.op=.store t so xo) (hdst:op.dst=none) (hgd:op.guard=none) (hsolo:Tb lab p op.after.toList 0 (ops.toList.take m)=true) (hn:Dc (ops.toList.take m)=news)
  (hlab:look σ' lab=some (.cells cs)) (ht:look c.te t=some ti) (hl:ys.length=ti.size) (hlc:Nat.ble (off+ti.size) cs.length=true)
  (h:hSK P c n ops news l1 env' σ' (fun e1 s1=>ev e1 so=some (.ref lab off)∧ev e1 xo=some x0∧hSK P c n ops news l2 e1 s1 (fun e s=>AQ P n ops l3 e (upd s lab (.cells (Fj cs off ys))) (K .normal)))) (hy:Ft x0=some ys):
  Tr P n (.region id ops true) env σ K:=by
 subst hn;subst h3
 have hle:=(HM hm).le
 have hpm:p<m:=by
  rcases Nat.lt_or_ge p m with h|h
  ·exact h
  ·rw[List.drop_of_length_le (by simp;omega)]at h2;cases h2
 have hpl:l1.length=p:=by rw[←h1];simp;omega
 have hsplit:ops.toList.take m=l1++op::l2:=by
  rw[←h2,←h1]
  have:=(List.take_append_drop p (ops.toList.take m)).symm
  rwa[List.take_take,Nat.min_eq_left O]at this
 exact Ahn hp hm hz hsplit hpl ho hdst hgd hsolo hlab (Mo ht hy hl hlc) h
end
end Go.Am
