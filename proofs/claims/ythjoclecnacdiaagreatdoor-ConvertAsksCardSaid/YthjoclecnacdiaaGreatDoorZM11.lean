/- Contracts and laws, joined: Bc, Bd, Be, Bf, Bg, Bh, Bl, Bm. No condition beside those that each theorem names. -/
import Derived.Test.YthjoclecnacdiaaGreatDoorZM10
set_option linter.unusedVariables false
set_option linter.unusedSimpArgs false
namespace Go.Am
def HO (x y:T):Prop:=(CK x=true→CK y=true)∧ ∀w M v,RelT w M v x→RelT w M v y
def DW:List T→List T→Prop
 |[],[]=>True
 |x::r,y::s=>HO x y∧DW r s
 |_,_=>False
def Hr:List (List T)→List (List T)→Prop
 |[],[]=>True
 |x::r,y::s=>DW x y∧Hr r s
 |_,_=>False
theorem HO.refl (x:T):HO x x:=⟨id,fun _ _ _ h=>h⟩
theorem HO.of_eq {x y:T} (h:x=y):HO x y:=h▸HO.refl x
theorem HO.any {m:SM} {sz:Nat} {es:List (List T)}:HO (.slice m sz es) (.slice .any sz es):=⟨fun _=>rfl,fun _ _ _ h=>KY h⟩
theorem HO.nil {m:SM} {sz sz':Nat}:HO (.slice m sz []) (.slice .any sz' []):=⟨fun _=>rfl,fun _ _ _ h=>Ou h⟩
theorem HO.sub {x y:T} (h:HO x y):Sub (.t x) (.t y):=fun _ _ _ hr=>.t _ _ (h.2 _ _ _ (AE hr))
theorem DW.refl: ∀l:List T,DW l l
 |[]=>trivial
 |x::r=>⟨HO.refl x,DW.refl r⟩
theorem Hr.refl: ∀l:List (List T),Hr l l
 |[]=>trivial
 |x::r=>⟨DW.refl x,Hr.refl r⟩
theorem DW.len: ∀{a b:List T},DW a b→a.length=b.length
 |[],[],_=>rfl
 |x::r,y::s,h=>by simp[DW.len h.2]
 |[],_::_,h=>h.elim
 |_::_,[],h=>h.elim
theorem DW.get: ∀{a b:List T},DW a b→ ∀(i:Nat) y,b[i]?=some y→ ∃x,a[i]?=some x∧HO x y
 |[],[],_,i,y,hy=>by simp at hy
 |x::r,z::s,h,0,y,hy=>by simp at hy;subst hy;exact⟨x,rfl,h.1⟩
 |x::r,z::s,h,i+1,y,hy=>by
  obtain⟨u,h1,h2⟩:=DW.get h.2 i y (by simpa using hy)
  exact⟨u,by simpa using h1,h2⟩
 |[],_::_,h,_,_,_=>h.elim
 |_::_,[],h,_,_,_=>h.elim
theorem DW.app: ∀{a b c d:List T},DW a b→DW c d→DW (a++c) (b++d)
 |[],[],_,_,_,h=>h
 |x::r,y::s,_,_,h1,h2=>⟨h1.1,DW.app h1.2 h2⟩
 |[],_::_,_,_,h,_=>h.elim
 |_::_,[],_,_,h,_=>h.elim
theorem Hr.flat: ∀{a b:List (List T)},Hr a b→a.length=b.length∧DW a.flatten b.flatten∧ ∀sz,(∀e∈a,e.length=sz)→ ∀e∈b,e.length=sz
 |[],[],_=>⟨rfl,trivial,fun _ _ _ h=>by simp at h⟩
 |x::r,y::s,h=>by
  obtain⟨h1,h2,h3⟩:=Hr.flat h.2
  refine⟨by simp[h1],by simpa using h.1.app h2,fun sz hs e he=>?_⟩
  rcases List.mem_cons.1 he with rfl|he
  ·rw[←h.1.len];exact hs x Y
  ·exact h3 sz (fun z hz=>hs z (by simp[hz])) e he
 |[],_::_,h=>h.elim
 |_::_,[],h=>h.elim
theorem HO.slice {m:SM} {sz:Nat} {es es':List (List T)} (h:Hr es es'):HO (.slice m sz es) (.slice .any sz es'):=by
 obtain⟨h1,h2,h3⟩:=h.flat
 refine⟨fun _=>rfl,fun w M v hr=>?_⟩
 cases hr with
 |sliceNil=>
  cases es' with
  |nil=>exact .sliceNil _ _
  |cons=>simp at h1
 |sliceZ a _ _ hm=>
  cases es' with
  |nil=>exact .sliceZ a _ _ Y
  |cons=>simp at h1
 |slice b off len cap _ _ _ vs hl hc hf hm hp hsz hone hcell hrel=>
  refine .slice b off len cap .any sz es' vs O hc (fun h=>by cases h) Y (fun _ _ h=>by cases h) (h3 sz hsz) (fun i y hy=>?_) (fun i y hy=>?_) (fun i y hy=>?_)
  ·obtain⟨x,q1,q2⟩:=h2.get i y hy;exact q2.1 (hone i x q1)
  ·obtain⟨x,q1,q2⟩:=h2.get i y hy;exact hcell i x q1
  ·obtain⟨x,q1,q2⟩:=h2.get i y hy;exact q2.2 _ _ _ (hrel i x q1)
end Go.Am
namespace Go.Am
def QI:Op→Bool
 |.store _ _ _=>true
 |_=>false
def MK (so xo:Operand) (s0 x0:AV):Oper→Env→Prop:=fun o env=>QI o.op=true∧so∈o.op.operands∧xo∈o.op.operands∧ev env so=some s0∧ev env xo=some x0
theorem Oy {ops:Array Oper} {so xo:Operand} {s0 x0:AV}:Mm ops (MK so xo s0 x0):=fun o env env' h ⟨h1,h2,h3,h4,h5⟩=>
 ⟨h1,h2,h3,by rw[←CM h so h2];exact h4,by rw[←CM h xo h3];exact h5⟩
section
variable {P:Program} {c:Conf} {n m:Nat} {ops:Array Oper} {news:List Nat}
theorem Mn {cf:Nat→List AV→St→Option (AV×St)} {o:Oper} {env:Env} {σ:St} (h:QI o.op=true):B8 c cf news o env σ=none:=by
 cases ho:o.op with
 |store t p x=>unfold B8;rw[ho]
 |_=>rw[ho]at h;simp[QI]at h
theorem Qn (hp:ProgOk P c) {op:Oper} {t:Nat} {so xo:Operand} {s0 x0:AV} {lab off:Nat} {cs:List AV} {B1:Blk} (ho:op.op=.store t so xo) (hs0:s0=.ref lab off) (hsv: ∀σ,look σ lab=some (.cells cs)→CT c.te t s0 x0 σ=some (upd σ lab B1))
  {w:World} {g:G} {a:Act} {env:Env} {σ:St} (hi:Inv w g σ) (he:AQ w g a env) (h1:ev env so=some s0) (h2:ev env xo=some x0) (h3:look σ lab=some (.cells cs)):BJ P op a w (fun v w'=> ∃g',Ext w g w' g'∧Rel w' g' v .top∧AQ w' g' a env∧Inv w' g' (upd σ lab B1)):=by
 obtain⟨w',q1,q2,q3,q4⟩:=GJ hp.te hi (AO he h1) (AO he h2) (hsv σ h3)
 exact BJ.skip (w':=w') (by simp[execOp,ho,q1]) ⟨g,q2,.top _,he.mono q4,q3⟩
theorem So {te:TE} {t lab off:Nat} {ti:TI} {x0:AV} {ys cs:List AV} (ht:look te t=some ti) (hy:Fl x0=some ys) (hl:ys.length=ti.size) (hle:Nat.ble (off+ti.size) cs.length=true): ∀σ,look σ lab=some (.cells cs)→CT te t (.ref lab off) x0 σ=some (upd σ lab (.cells (Ed cs off ys))):=by
 intro σ h
 have hle':off+ti.size≤cs.length:=by simpa using hle
 unfold CT
 simp only[ht,hy,hl,if_true,h,hle']
end
end Go.Am
namespace Go.Am
section
variable {P:Program} {c:Conf} {n:Nat} {ops:Array Oper} {rest:List Oper} {env:Env} {σ:St} {o:Oper} {k:Env→St→Prop} {news:List Nat}
theorem LL {te:TE} {t e s0 b0 b sz lo len esz ebb kc:Nat} {z0 ez:List T} {ek:TK} {kk:IntKind} {nn:Int} (ht:look te t=some ⟨s0,b0,z0,.slice e⟩) (he:look te e=some ⟨esz,ebb,ez,ek⟩) (hsz:esz=sz) (hn:nn=(kc:Int)) (hlt:kc<len):
  CU te t (.row b sz lo len) (.t (.int kk nn))=some (.eref b sz (lo+kc) 0):=by
 subst hn;subst hsz
 unfold CU
 simp only[Fy,ht,he,if_true,if_pos hlt]
theorem Ca (hp0:ProgOk P c) {t e s0 b0 b sz lo len esz ebb kc:Nat} {z0 ez:List T} {ek:TK} {kk:IntKind} {nn:Int} {xo io:Operand} {e2:Env} (hg:o.guard=none) (ho:o.op=.indexAddr t xo io) (hx:ev env xo=some (.row b sz lo len)) (hi:ev env io=some (.t (.int kk nn)))
  (ht:look c.te t=some ⟨s0,b0,z0,.slice e⟩) (he:look c.te e=some ⟨esz,ebb,ez,ek⟩) (hsz:esz=sz) (hn:nn=(kc:Int)) (hlt:kc<len) (hp:BD n o.dst (.eref b sz (lo+kc) 0) env=some e2) (h:AU P n ops rest e2 σ k):AU P n ops (o::rest) env σ k:=by
 refine Ap hp0 (x:=.eref b sz (lo+kc) 0) (e:=env) (s:=σ) hg ?_ hp h
 unfold DH
 rw[ho]
 simp only[Cn,hx,hi,LL ht he hsz hn hlt]
theorem O7 {t e s0 b0 b sz lo len esz ebb kc:Nat} {z0 ez:List T} {ek:TK} {kk:IntKind} {nn:Int} {xo io:Operand} {e2:Env} (hg:o.guard=none) (ho:o.op=.indexAddr t xo io) (hx:ev env xo=some (.row b sz lo len)) (hi:ev env io=some (.t (.int kk nn)))
  (ht:look c.te t=some ⟨s0,b0,z0,.slice e⟩) (he:look c.te e=some ⟨esz,ebb,ez,ek⟩) (hsz:esz=sz) (hn:nn=(kc:Int)) (hlt:kc<len) (hp:BD n o.dst (.eref b sz (lo+kc) 0) env=some e2) (h:hSK P c n ops news rest e2 σ k):hSK P c n ops news (o::rest) env σ k:=by
 refine As (x:=.eref b sz (lo+kc) 0) (nb:=[]) hg ?_ rfl hp h
 unfold B8
 rw[ho]
 simp only[Cn,hx,hi,LL ht he hsz hn hlt]
theorem SL {te:TE} {t b sz kc off:Nat} {ti:TI} {es:List (List T)} {e:List T} {y:T} (ht:look te t=some ti) (hb:look σ b=some (.grow sz es)) (he:es[kc]?=some e) (ha:ti.kind.agg=false) (hy:e[off]?=some y):FU te t (.eref b sz kc off) σ=some (.t y):=by
 unfold FU
 simp only[ht,hb,if_true,he,ha,hy]
theorem RA {t b sz kc off:Nat} {ti:TI} {es:List (List T)} {e:List T} {y:T} {xo:Operand} {e2:Env} (hg:o.guard=none) (ho:o.op=.load t xo) (hx:ev env xo=some (.eref b sz kc off)) (hm:FP b news=false) (ht:look c.te t=some ti) (hb:look σ b=some (.grow sz es)) (he:es[kc]?=some e) (ha:ti.kind.agg=false) (hy:e[off]?=some y) (hp:BD n o.dst (.t y) env=some e2) (h:hSK P c n ops news rest e2 σ k):hSK P c n ops news (o::rest) env σ k:=by
 refine As (x:=.t y) (nb:=[]) hg ?_ rfl hp h
 unfold B8
 rw[ho]
 simp only[hx,LJ,hm,SL ht hb he ha hy]
theorem KT (hp0:ProgOk P c) {t b sz kc off:Nat} {ti:TI} {es:List (List T)} {e:List T} {y:AV} {ts:List T} {po xo:Operand} {env' e2:Env} {σ':St} (hg:o.guard=none) (ho:o.op=.store t po xo) (hz:Gl o env σ=(env',σ')) (hpo:ev env' po=some (.eref b sz kc off)) (hxo:ev env' xo=some y) (ht:look c.te t=some ti) (hc:Fl y=some (AA ts)) (hat:allT (AA ts)=some ts) (hl:(AA ts).length=ti.size)
  (hb:look σ' b=some (.grow sz es)) (he:es[kc]?=some e) (hle:Nat.ble (off+ti.size) sz=true) (hp:BD n o.dst (.t .undef) env'=some e2) (h:AU P n ops rest e2 (upd σ' b (.grow sz (es.set kc (Ed e off ts)))) k):AU P n ops (o::rest) env σ k:=by
 have hle':off+ti.size≤sz:=by simpa using hle
 refine Ap hp0 (x:=.t .undef) (e:=env') (s:=upd σ' b (.grow sz (es.set kc (Ed e off ts)))) hg ?_ hp h
 unfold DH
 rw[ho]
 simp only[hz,Ej,ho,hpo,hxo,CT,ht,hc,hl,hb,if_true,he,hat,if_pos hle']
end
end Go.Am
namespace Go.Am
section
variable {P:Program} {c:Conf} {n m:Nat} {ops:Array Oper} {news:List Nat}
def Gt (q:Nat):List Edge→Bool
 |[]=>false
 |e::r=>(Nat.beq e.on q&&Region.binds .any e)||Gt q r
theorem Kw {q:Nat}: ∀{l:List Edge},Gt q l=true→ ∃e∈l,e.on=q∧Region.binds .any e=true
 |[],h=>by simp[Gt]at h
 |e::r,h=>by
  simp only[Gt,Bool.or_eq_true,Bool.and_eq_true]at h
  rcases h with⟨h1,h2⟩|h
  ·exact⟨e,by simp,Nat.eq_of_beq_eq_true h1,h2⟩
  ·obtain⟨e',h1,h2⟩:=Kw h;exact⟨e',by simp[h1],h2⟩
theorem TW {q p:Nat} {op:Oper} (hop:ops[p]?=some op) (h:Gt q op.after.toList=true):Pre ops q p:=by
 obtain⟨e,h1,rfl,h2⟩:=Kw h
 exact .one p op e hop (by simpa using h1) h2
end
end Go.Am
namespace Go.Am
def SR:Op→Bool
 |.load _ _=>true
 |_=>false
section
variable {P:Program} {c:Conf} {n m:Nat} {ops:Array Oper} {news:List Nat}
theorem Qo {cf:Nat→List AV→St→Option (AV×St)} {o:Oper} {env:Env} {σ:St} {nw:List Nat} (h:SR o.op=false) (news:List Nat):B8 c cf news o env σ=B8 c cf nw o env σ:=by
 cases ho:o.op with
 |load t p=>rw[ho]at h;simp[SR]at h
 |_=>unfold B8;rw[ho]
theorem Pg {F:Fence} (hF:IsW F) (hp:ProgOk P c) (hD:DrawOk ops m) {K:Exit→Env→St→Prop} {w0:World} {g0:G} {e:Env} {s:St} {p lab:Nat} {op:Oper} {so xo:Operand} {s0 x0:AV} {B0 B1:Blk}
  (hop:ops[p]?=some op) (hpm:p<m) (hd:op.dst=none) (hgd:op.guard=none) (hst0:QI op.op=true)
  (hsolo: ∀i o,i<m→ops[i]?=some o→i≠p→QI o.op=false∧lab∉Cb o∧(SR o.op=false∨Pre ops i p))
  (hdo: ∀{w:World} {g:G} {a:Act} {env:Env} {σ:St},Inv w g σ→AQ w g a env→ev env so=some s0→ev env xo=some x0→look σ lab=some B0→BJ P op a w (fun v w'=> ∃g',Ext w g w' g'∧Rel w' g' v .top∧AQ w' g' a env∧Inv w' g' (upd σ lab B1)))
  (htl:AU P n ops (ops.toList.drop m) e (upd s lab B1) (K .normal)):
  ∀(fuel:Nat) {listed:Array Bool} {rem:List Nat} {w:World} {g:G} {a:Act} {env:Env} {σ:St},listed.size=ops.size→DC ops listed→(∀i,m≤i→i<ops.size→ ¬Li listed i)→
  (∀i,i∈rem↔i<m∧ ¬Li listed i)→rem.Pairwise (· < ·)→rem.length+(ops.size-m)≤fuel→G5 P c (MK so xo s0 x0) n ops news rem env σ e s→look σ lab=some B0→
  (¬Li listed p→Good n w g a env σ)→(Li listed p→Good n w g a env (upd σ lab B1))→Ext w0 g0 w g→
  wpAnyIn F 0 P .any ops (C2 n w0 g0 K) fuel listed a w:=by
 intro fuel
 induction fuel with
 |zero=>
  intro listed rem w g a env σ hs hdc hhi hrem hsort hf hruns hρ hg1 hg2 hx
  have hnil:rem=[]:=List.eq_nil_of_length_eq_zero O
  subst hnil
  have hpl:Li listed p:=Classical.byContradiction fun hc=>by have:=(hrem p).2 ⟨hpm,hc⟩;simp at this
  have hg:=hg2 hpl
  have hgs:Good n w g a e (upd s lab B1):=hg.eqv (fun t=>hruns.1 t) (fun b=>by rw[Bu,Bu,hruns.2 b])
  refine DY hF hD 0 m (Nat.le_refl _) hD.le hs (fun i hi=>⟨fun h=>?_,fun h=>?_⟩) O htl hgs hx
  ·exact Classical.byContradiction fun hc=>hhi i O hi h
  ·exact Classical.byContradiction fun hc=>by have:=(hrem i).2 ⟨h,hc⟩;simp at this
 |succ fuel ih=>
  intro listed rem w g a env σ hs hdc hhi hrem hsort hf hruns hρ hg1 hg2 hx
  by_cases hnil:rem=[]
  ·subst hnil
   have hpl:Li listed p:=Classical.byContradiction fun hc=>by have:=(hrem p).2 ⟨hpm,hc⟩;simp at this
   have hg:=hg2 hpl
   have hgs:Good n w g a e (upd s lab B1):=hg.eqv (fun t=>hruns.1 t) (fun b=>by rw[Bu,Bu,hruns.2 b])
   refine DY hF hD (fuel+1) m (Nat.le_refl _) hD.le hs (fun i hi=>⟨fun h=>?_,fun h=>?_⟩) (by simp at hf;omega) htl hgs hx
   ·exact Classical.byContradiction fun hc=>hhi i O hi h
   ·exact Classical.byContradiction fun hc=>by have:=(hrem i).2 ⟨h,hc⟩;simp at this
  ·obtain⟨i0,rest,rfl⟩: ∃i0 rest,rem=i0::rest:=List.exists_cons_of_ne_nil hnil
   have hm:=hD.le
   obtain⟨hi0,hn0⟩:=(hrem i0).1 Y
   have hmin: ∀j,j<i0→Li listed j:=fun j hj=>Classical.byContradiction fun hc=>by
    have:=(hrem j).2 ⟨by omega,hc⟩
    simp at this
    rcases this with h'|h'
    ·omega
    ·have:=(List.pairwise_cons.1 hsort).1 j h';omega
   have ho0:ops[i0]?=some ops[i0]:=Array.getElem?_eq_getElem O
   have hin:i0∈Region.ready .any ops listed:=by
    rw[BX hs]
    exact⟨hn0,ops[i0],ho0,fun e he hb=>hmin _ (hD.edge i0 _ ho0 e he hb)⟩
   refine⟨fun hnil=>by rw[hnil]at hin;simp at hin,fun i hi=>?_⟩
   rw[BX hs]at hi
   obtain⟨hn,o,ho,hr⟩:=hi
   have hisz:i<ops.size:=by
    rcases Nat.lt_or_ge i ops.size with h|h
    ·exact h
    ·rw[Array.getElem?_eq_none h]at ho;cases ho
   have hr': ∀o2,ops[i]?=some o2→ ∀e∈o2.after,Region.binds .any e=true→Li listed e.on:=fun o2 ho2=>by rw[ho]at ho2;cases ho2;exact hr
   have him:i<m:=Classical.byContradiction fun hc=>hn0 (Dd hdc (hD.tail i O hisz i0 O) hr')
   have himem:i∈i0::rest:=(hrem i).2 ⟨him,hn⟩
   obtain⟨l1,l2,hsplit⟩:=List.append_of_mem himem
   rw[hsplit]at hruns hsort hrem hf
   have hlt: ∀j∈l1,j<i:=fun j hj=>(List.pairwise_append.1 hsort).2.2 j hj i Y
   have hgt: ∀j∈l2,i<j:=fun j hj=>(List.pairwise_cons.1 (List.pairwise_append.1 hsort).2.1).1 j hj
   have hb:=Oe Oy ho (l1:=l1) (l2:=l2) (fun j hj=>by
    obtain⟨hjm,hjn⟩:=(hrem j).1 (by simp[hj])
    have hoj:ops[j]?=some ops[j]:=Array.getElem?_eq_getElem O
    refine⟨ops[j],hoj,?_⟩
    rcases hD.head i o him ho j ops[j] (hlt j hj) hoj with h'|h'
    ·exact absurd (Dd hdc h' hr') hjn
    ·exact h') hruns
   obtain⟨o2,y,nb,e1,s1,q1,q2,q3,q4,q5⟩:=hb
   rw[ho]at q1;cases q1
   have hrem': ∀j,j∈l1++l2↔j<m∧ ¬Li (listed.setIfInBounds i true) j:=by
    intro j
    rw[DE O]
    have hj:=hrem j
    constructor
    ·intro hmem
     have hne:j≠i:=by
      rcases List.mem_append.1 hmem with h'|h'
      ·have:=hlt j h';omega
      ·have:=hgt j h';omega
     have:=hj.1 (by rcases List.mem_append.1 hmem with h'|h'<;>simp[h'])
     exact⟨this.1,fun hc=>by rcases hc with h'|h';exact hne h';exact this.2 h'⟩
    ·rintro⟨h1,h2⟩
     have hne:j≠i:=fun e=>h2 (.inl e)
     have:=hj.2 ⟨h1,fun hc=>h2 (.inr hc)⟩
     simp at this⊢
     rcases this with h'|h'|h'
     ·exact .inl h'
     ·exact absurd h' hne
     ·exact .inr h'
   have hsort':(l1++l2).Pairwise (· < ·):=by
    refine List.pairwise_append.2 ⟨(List.pairwise_append.1 hsort).1,(List.pairwise_cons.1 (List.pairwise_append.1 hsort).2.1).2,fun x hx y hy=>?_⟩
    have:=hlt x hx;have:=hgt y hy;omega
   have hhi': ∀j,m≤j→j<ops.size→ ¬Li (listed.setIfInBounds i true) j:=fun j hj hjs hc=>by
    rw[DE O]at hc
    rcases hc with h'|h'
    ·omega
    ·exact hhi j hj hjs h'
   have hes:(∀t,o.dst≠some t→look e1 t=look env t):=fun t ht=>by rw[q4.1 t,if_neg ht]
   have hρ1:look s1 lab=some B0:=by
    rw[q4.2]
    rcases q3.new with hnb|⟨d,B,hd1,hnb,_,hnone⟩
    ·subst hnb;exact hρ
    ·rw[BI hnb]
     have hne:2*d≠lab:=fun e=>by rw[e,hρ]at hnone;cases hnone
     rw[if_neg hne];exact hρ
   have hnext: ∀{w':World} {g':G} {a':Act},(¬Li (listed.setIfInBounds i true) p→Good n w' g' a' e1 s1)→(Li (listed.setIfInBounds i true) p→Good n w' g' a' e1 (upd s1 lab B1))→Ext w0 g0 w' g'→
     wpAnyIn F 0 P .any ops (C2 n w0 g0 K) fuel (listed.setIfInBounds i true) a' w':=fun h1 h2 hx1=>
    ih (by simp[hs]) (hdc.set O hr') hhi' hrem' hsort' (by simp at hf⊢;omega) q5 hρ1 h1 h2 hx1
   refine Hu hF ho ?_
   by_cases hip:i=p
   ·
    subst hip
    rw[hop]at ho;cases ho
    have hg:=hg1 hn
    have hwant:DF ops op env=some true:=by unfold DF;rw[hgd]
    have halt:MK so xo s0 x0 op env∧y=.top∧nb=[]:=by
     rcases q3.2 with⟨_,h1,h2,h3⟩|⟨_,cf,_,h3⟩|⟨h1,_⟩
     ·exact⟨h1,h2,h3⟩
     ·exfalso;rw[Mn hst0]at h3;cases h3
     ·rw[hwant]at h1;cases h1
    obtain⟨⟨_,_,_,hes0,hex0⟩,rfl,rfl⟩:=halt
    refine .inl ⟨Df hg hwant,?_⟩
    refine hdo hg.inv hg.env hes0 hex0 hρ F hF _ _ ?_
    rintro v w' ⟨g',k1,k2,k3,k4⟩
    refine hnext (fun hc=>absurd ((DE O).2 (.inl rfl)) hc) (fun _=>?_) (hx.trans k1)
    rw[hd]
    have hgp:Good n w' g' a env _:=⟨k3,k4,hg.defers.ext k1,hg.size⟩
    refine hgp.eqv (fun t=>?_) (fun b=>?_)
    ·exact hes t (by rw[hd];simp)
    ·rw[Bu,Bu,q4.2 b];rfl
   ·obtain⟨z2,z3,z4⟩:=hsolo i o him ho hip
    have hLi:Li (listed.setIfInBounds i true) p↔Li listed p:=by
     rw[DE O]
     exact⟨fun h=>h.elim (fun e=>absurd e.symm hip) (fun h=>h),.inr⟩
    have hq:(DF ops o env=some true∧ ∃cf,D7 P cf∧B8 c cf news o env σ=some (y,nb))∨(DF ops o env=some false∧y=.t .undef∧nb=[]):=by
     rcases q3.2 with⟨_,h1,_⟩|h|h
     ·rw[h1.1]at z2;cases z2
     ·exact .inl h
     ·exact .inr h
    have step: ∀{env':Env} {σ':St},(∀t,look env' t=look env t)→(∀b,b≠lab→look σ' b=look σ b)→(SR o.op=false∨ ∀b,look σ' b=look σ b)→Good n w g a env' σ'→
      (∀{w':World} {g':G} {a':Act} {env2:Env} {σ2:St},(∀t,look env2 t=if o.dst=some t then some y else look env' t)→(∀b,look σ2 b=look (nb++σ') b)→Good n w' g' a' env2 σ2→Ext w0 g0 w' g'→wpAnyIn F 0 P .any ops (C2 n w0 g0 K) fuel (listed.setIfInBounds i true) a' w')→
      (Region.wanted o (yielded ops a.tmps)=true∧o.wpIn F 0 P a w (wpAnyIn F 0 P .any ops (C2 n w0 g0 K) fuel (listed.setIfInBounds i true)) (C2 n w0 g0 K))∨(Region.wanted o (yielded ops a.tmps)=false∧wpAnyIn F 0 P .any ops (C2 n w0 g0 K) fuel (listed.setIfInBounds i true) (a.put o.dst undef) w):=by
     intro env' σ' hev hst hld hg hk
     have hl1: ∀t,t∈o.looksAt ops→look env t=look env' t:=fun t _=>(hev t).symm
     have hputg: ∀{w':World} {g':G} {v:Value} {σ2:St},Good n w' g' a env' σ2→Rel w' g' v y→(∀b,look σ2 b=look (nb++σ') b)→Ext w0 g0 w' g'→
       wpAnyIn F 0 P .any ops (C2 n w0 g0 K) fuel (listed.setIfInBounds i true) (a.put o.dst v) w':=by
      intro w' g' v σ2 hg1 hrel hs1 hx1
      cases hd1:o.dst with
      |none=>exact hk (env2:=env') (fun t=>by rw[hd1];simp) hs1 hg1 hx1
      |some d=>
       have hlt:=q3.1 d hd1
       have hput:BD n (some d) y env'=some ((d,y)::env'):=by
        simp only[BD]
        have:Nat.blt d n=true:=by simpa[Nat.blt_eq]using hlt
        rw[this]
       exact hk (env2:=(d,y)::env') (fun t=>by rw[hd1,AB];simp) hs1 (Di hput hg1 hrel) hx1
     rcases hq with⟨hw,cf,hcf,hst1⟩|⟨hw,hy,hnb⟩
     ·refine .inl ⟨Df hg (by rw[←Ft hl1];exact hw),?_⟩
      have hst2: ∃nw,B8 c cf nw o env' σ'=some (y,nb):=by
       rcases hld with hld|hld
       ·refine⟨lab::news,?_⟩
        rw[Qo hld news]at hst1
        rw[←Dn (news:=lab::news) (CM hl1) (fun b hb=>(hst b (fun e=>hb (by simp[e]))).symm) (fun b hb=>(hst b (fun e=>z3 (e▸hb))).symm)];exact hst1
       ·exact⟨news,by rw[←Dn (CM hl1) (fun b _=>(hld b).symm) (fun b _=>(hld b).symm)];exact hst1⟩
      obtain⟨nw,hst2⟩:=hst2
      refine Fw hp hcf hg.inv hg.env hst2 F hF _ _ ?_
      rintro v w' ⟨g',k1,k2,k3,k4⟩
      exact hputg (σ2:=nb++σ') ⟨k4,k3,hg.defers.ext k1,hg.size⟩ k2 (fun _=>rfl) (hx.trans k1)
     ·refine .inr ⟨Df hg (by rw[←Ft hl1];exact hw),?_⟩
      subst hy;subst hnb
      exact hputg (σ2:=σ') hg (.t _ _ .undef) (fun _=>rfl) hx
    have hnbl: ∀b,b=lab→ ∀σ':St,look (nb++σ') b=look σ' b:=fun b hb σ'=>by
     rcases q3.new with hnb|⟨d,B,hd1,hnb,hl,hnone⟩
     ·subst hnb;rfl
     ·rw[BI hnb]
      have hne:2*d≠b:=fun e=>by rw[e,hb,hρ]at hnone;cases hnone
      rw[if_neg hne]
    have hnbo: ∀b,∀σ1 σ2:St,look σ1 b=look σ2 b→look (nb++σ1) b=look (nb++σ2) b:=fun b σ1 σ2 h=>by
     rcases q3.new with hnb|⟨d,B,hd1,hnb,hl,hnone⟩
     ·subst hnb;exact h
     ·rw[BI hnb,BI hnb,h]
    by_cases hpl:Li listed p
    ·have hg:=hg2 hpl
     refine step (env':=env) (σ':=upd σ lab B1) (fun _=>rfl) (fun b hb=>by rw[Bu,if_neg (Ne.symm hb)]) (.inl (z4.resolve_right fun h=>hn (L0 hdc h hpl))) hg (fun he2 hs2 hg' hx'=>?_)
     refine hnext (fun hc=>absurd (hLi.2 hpl) hc) (fun _=>hg'.eqv (fun t=>?_) (fun b=>?_)) hx'
     ·rw[he2 t,q4.1 t]
     ·rw[hs2 b,Bu]
      by_cases e:lab=b
      ·rw[if_pos e,hnbl b e.symm,Bu,if_pos e]
      ·rw[if_neg e,q4.2 b]
       exact hnbo b _ _ (by rw[Bu,if_neg e])
    ·have hg:=hg1 hpl
     refine step (env':=env) (σ':=σ) (fun _=>rfl) (fun _ _=>rfl) (.inr fun _=>rfl) hg (fun he2 hs2 hg' hx'=>?_)
     exact hnext (fun _=>hg'.eqv (fun t=>by rw[he2 t,q4.1 t]) (fun b=>by rw[hs2 b,q4.2 b])) (fun hc=>absurd (hLi.1 hc) hpl) hx'
def Oz (lab p:Nat) (es:List Edge):Nat→List Oper→Bool
 |_,[]=>true
 |i,o::r=>(Nat.beq i p||(!QI o.op&&(!(Cb o).contains lab&&(!SR o.op||Gt i es))))&&Oz lab p es (i+1) r
theorem MM {lab p:Nat} {es:List Edge}: ∀{l:List Oper} {i0:Nat},Oz lab p es i0 l=true→ ∀j o,l[j]?=some o→i0+j≠p→QI o.op=false∧lab∉Cb o∧(SR o.op=false∨Gt (i0+j) es=true)
 |[],i0,_,j,o,h,_=>by simp at h
 |x::r,i0,hb,j,o,h,hne=>by
  simp only[Oz,Bool.and_eq_true]at hb
  cases j with
  |zero=>
   simp at h;subst h
   have hb1:=hb.1
   cases hq:Nat.beq i0 p with
   |true=>exact absurd (Nat.eq_of_beq_eq_true hq) hne
   |false=>
    simp only[hq,Bool.false_or,Bool.and_eq_true,Bool.not_eq_true',Bool.or_eq_true]at hb1
    exact⟨hb1.1,(fun hc=>by rw[List.contains_iff_mem.2 hc]at hb1;exact absurd hb1.2.1 Y),hb1.2.2⟩
  |succ j=>
   simp at h
   have:=MM hb.2 j o h O
   rwa[show i0+1+j=i0+(j+1)by omega]at this
theorem XK (hp:ProgOk P c) {id p lab off t:Nat} {env env':Env} {σ σ':St} {K:Exit→Env→St→Prop} {op:Oper} {so xo:Operand} {x0:AV} {cs:List AV} {B1:Blk} {l1 l2:List Oper}
  (hm:Hn ops=some m) (hz:regFrz ops env σ=(env',σ')) (hsplit:ops.toList.take m=l1++op::l2) (hlen:l1.length=p) (ho:op.op=.store t so xo) (hdst:op.dst=none) (hgd:op.guard=none) (hsolo:Oz lab p op.after.toList 0 (ops.toList.take m)=true)
  (hlab:look σ' lab=some (.cells cs)) (hsv: ∀σ,look σ lab=some (.cells cs)→CT c.te t (.ref lab off) x0 σ=some (upd σ lab B1))
  (h:hSK P c n ops (Dj (ops.toList.take m)) l1 env' σ' (fun e1 s1=>ev e1 so=some (.ref lab off)∧ev e1 xo=some x0∧hSK P c n ops (Dj (ops.toList.take m)) l2 e1 s1 (fun e s=>AU P n ops (ops.toList.drop m) e (upd s lab B1) (K .normal)))):
  Tr P n (.region id ops true) env σ K:=by
 intro F hF hrf w g0 a hg0
 obtain⟨g,hx,hg⟩:=EI hz hg0
 have hD:=J1 hm
 have hle:=hD.le
 have hml:(ops.toList.take m).length=m:=by simp;omega
 have hll:l1.length+(l2.length+1)=m:=by rw[←hml,hsplit];simp
 have hgl: ∀j,j<m→(l1++op::l2)[j]?=ops[j]?:=fun j hj=>by
  rw[←hsplit,List.getElem?_take,if_pos O,Array.getElem?_toList]
 have hop:ops[p]?=some op:=by
  have:=hgl l1.length O
  rw[List.getElem?_append_right (Nat.le_refl _),Nat.sub_self,hlen]at this
  simpa using this.symm
 have hmem: ∀o,o∈l1++op::l2→ ∀b∈Cb o,b∈Dj (ops.toList.take m):=fun o ho b hb=>Gp (by rw[hsplit];exact ho) b hb
 obtain⟨e1,s1,r1,v1,v2,h⟩:=FX (alt:=MK so xo (.ref lab off) x0) l1 0 (fun j hj=>by have:=hgl j O;rw[List.getElem?_append_left hj]at this;rwa[Nat.zero_add]) (fun o ho=>hmem o (by simp[ho])) h
 obtain⟨e,s,r2,htl⟩:=FX (alt:=MK so xo (.ref lab off) x0) l2 (p+1) (fun j hj=>by
  have:=hgl (l1.length+1+j) O
  rw[List.getElem?_append_right O,show l1.length+1+j-l1.length=j+1 by omega,List.getElem?_cons_succ,show l1.length+1+j=p+1+j by omega]at this
  exact this) (fun o ho=>hmem o (by simp[ho])) h
 have rp:G5 P c (MK so xo (.ref lab off) x0) n ops (Dj (ops.toList.take m)) (p::List.range' (p+1) l2.length) e1 s1 e s:=
  ⟨op,.top,[],e1,s1,hop,hmem op Y,⟨fun d hd1=>(by rw[hdst]at hd1;cases hd1),.inl ⟨by unfold DF;rw[hgd],⟨by rw[ho];rfl,by simp[ho,Op.operands],by simp[ho,Op.operands],v1,v2⟩,rfl,rfl⟩⟩,⟨fun t=>by rw[hdst];simp,fun _=>rfl⟩,r2⟩
 have hruns:=G5.app Oy r1 rp
 have hrl:List.range' 0 l1.length++p::List.range' (p+1) l2.length=List.range' 0 m:=by
  have h1:p::List.range' (p+1) l2.length=List.range' p (l2.length+1):=by rw[List.range'_succ]
  rw[h1,←hll,←List.range'_append_1 (s:=0) (m:=l1.length),hlen,Nat.zero_add]
 rw[hrl]at hruns
 refine wpIn_mono ?_ fun ex a2 w2 (hq:C2 n w g K ex a2 w2)=>hq.lift hx
 refine wpIn_region_any hp.mix ?_
 refine Pg hF hp hD hop O hdst hgd (by rw[ho];rfl) (fun i o hi ho' hne=>?_) (fun hi he h1 h2 h3=>Qn hp ho rfl hsv hi he h1 h2 h3) htl ops.size Y (fun i o ho hl=>by simp[Li,Array.getElem?_replicate]at hl) (fun i _ _ hl=>by simp[Li,Array.getElem?_replicate]at hl) (rem:=List.range' 0 m) (fun i=>by simp[Li,Array.getElem?_replicate,List.mem_range'_1]) List.pairwise_lt_range' (by simp;omega) hruns hlab (fun _=>hg.drew) (fun hc=>by simp[Li,Array.getElem?_replicate]at hc) (Ext.drew w g)
 obtain⟨z1,z2,z3⟩:=MM hsolo i o (by rw[List.getElem?_take,if_pos hi,Array.getElem?_toList];exact ho') O
 exact⟨z1,z2,z3.imp (fun h=>h) fun h=>TW hop (by rwa[Nat.zero_add]at h)⟩
theorem UP (hp:ProgOk P c) (p:Nat) {id lab off t:Nat} {env env':Env} {σ σ':St} {K:Exit→Env→St→Prop} {op:Oper} {so xo:Operand} {x0:AV} {cs ys:List AV} {ti:TI} {l1 l2 l3:List Oper} {news:List Nat}
  (hm:Hn ops=some m) (hz:regFrz ops env σ=(env',σ')) (h1:ops.toList.take p=l1) (h2:(ops.toList.take m).drop p=op::l2) (h3:ops.toList.drop m=l3) (ho:op.op=.store t so xo) (hdst:op.dst=none) (hgd:op.guard=none) (hsolo:Oz lab p op.after.toList 0 (ops.toList.take m)=true) (hn:Dj (ops.toList.take m)=news)
  (hlab:look σ' lab=some (.cells cs)) (ht:look c.te t=some ti) (hl:ys.length=ti.size) (hlc:Nat.ble (off+ti.size) cs.length=true)
  (h:hSK P c n ops news l1 env' σ' (fun e1 s1=>ev e1 so=some (.ref lab off)∧ev e1 xo=some x0∧hSK P c n ops news l2 e1 s1 (fun e s=>AU P n ops l3 e (upd s lab (.cells (Ed cs off ys))) (K .normal)))) (hy:Fl x0=some ys):
  Tr P n (.region id ops true) env σ K:=by
 subst hn;subst h3
 have hle:=(J1 hm).le
 have hpm:p<m:=by
  rcases Nat.lt_or_ge p m with h|h
  ·exact h
  ·rw[List.drop_of_length_le (by simp;omega)]at h2;cases h2
 have hpl:l1.length=p:=by rw[←h1];simp;omega
 have hsplit:ops.toList.take m=l1++op::l2:=by
  rw[←h2,←h1]
  have:=(List.take_append_drop p (ops.toList.take m)).symm
  rwa[List.take_take,Nat.min_eq_left O]at this
 exact XK hp hm hz hsplit hpl ho hdst hgd hsolo hlab (So ht hy hl hlc) h
end
end Go.Am
namespace Go.Am
section
variable {P:Program} {c:Conf} {n:Nat} {ops:Array Oper} {rest:List Oper} {env:Env} {σ:St} {o:Oper} {k:Env→St→Prop}
def Of (te:TE) (t m:Nat) (env:Env) (parts:List (Nat×Operand)):Option (List AV):=
 match look te t with
 |some ⟨_,_,_,.slice e⟩=>match look te e with
  |some ei=>if m*ei.size≤16777216 then(if ei.size=1 then(match evP env parts with
   |some ps=>E1 (fun i=>some (i*ei.size,ei.size)) ps (AA (IU ei.zero m))
   |none=>none)else none)else none
  |none=>none
 |_=>none
theorem Nn {place:Nat→Option (Nat×Nat)}: ∀(ps:List (Nat×AV)) (cs cs':List AV),E1 place ps cs=some cs'→cs'.length=cs.length
 |[],cs,cs',h=>by simp[E1]at h;rw[h]
 |(i,x)::r,cs,cs',h=>by
  simp only[E1]at h
  split at h
  ·split at h
   ·split at h
    ·split at h
     ·rw[Nn r _ _ h,Eq _ _ _ O]
     ·simp at h
    ·simp at h
   ·simp at h
  ·simp at h
theorem M0 {te:TE} (hte:CH P te) {w:World} {g:G} {a:Act} {env:Env} (he:AQ w g a env) {t m:Nat} {parts:Array (Nat×Operand)} {cs:List AV} (h:Of te t m env parts.toList=some cs):
  ∃cells' e w',(Instr.buildSlice t m (parts.map fun p=>(p.1,a.eval p.2))).run P w=.ok (.slice (some ⟨w.heap.size,0,none⟩) m m) w'∧More w w' (.cells cells' e (0,0))∧B5 w g cells'.toList cs∧cs.length=m:=by
 unfold Of at h
 split at h
 ·rename_i i1 i2 i3 e hl
  have hu:=DX (hte _ _ hl) w rfl
  split at h
  ·rename_i ei hei
   have hsz:=C3 (hte _ _ hei) w
   have hz:=Db (hte _ _ hei) w
   have hzr:=De (w:=w) (g:=g) (hte _ _ hei)
   have hzl:=(hte _ _ hei).len
   split at h
   ·rename_i hsmall
    split at h
    ·rename_i hone
     split at h
     ·rename_i ps hps
      obtain⟨zc,hzc⟩: ∃zc:Array Value,zc=(if m*ei.size=0 then #[]else(BE ei).cells):=⟨_,rfl⟩
      have hzs:(BE ei).cells.size=ei.size:=by rw[←hzl,←Bw,←hzr.1];simp
      have hinit:B5 w g ((Array.range (m*ei.size)).map (zc[· % zc.size]!)).toList (AA (IU ei.zero m)):=by
       refine⟨by simp[Bw,Fc,hzl],fun i v x hv hx=>?_⟩
       have hlt:i<m*ei.size:=by have:=Bp hx;rw[Bw,Fc,hzl]at this;exact this
       have hne:m*ei.size≠0:=by omega
       have hpos:0<ei.size:=by omega
       rw[if_neg hne]at hzc
       subst hzc
       rw[BZ,Lt _ _ _ (by rw[hzl];exact hlt),hzl]at hx
       have hm:i % ei.size<ei.size:=Nat.mod_lt _ hpos
       simp only[Array.toList_map,Array.toList_range,List.getElem?_map,List.getElem?_range hlt,Option.map_some,Option.some.injEq,hzs]at hv
       have hget:(BE ei).cells.toList[i % ei.size]?=some v:=by
        rw[←hv,Array.getElem?_toList,getElem!_pos _ _ (by rw[hzs];exact hm),Array.getElem?_eq_getElem (by rw[hzs];exact hm)]
       exact hzr.2 _ v x hget (by rw[BZ];exact hx)
      obtain⟨cells',f1,f2⟩:=Hf (fun i=>some (i*ei.size,ei.size)) h hinit (HF he hps)
      have hcl:cs.length=m:=by rw[Nn _ _ _ h,Bw,Fc,hzl,hone,Nat.mul_one]
      refine⟨cells',e,_,?_,More.alloc w (.cells cells' e),f2,hcl⟩
      have hsm: ¬(m*ei.size>2^24):=by omega
      have f1':Instr.fill (fun i=>some (i*ei.size,ei.size)) ((Array.range (m*ei.size)).map (zc[· % zc.size]!)) (parts.map fun p=>(p.1,a.eval p.2)).toList=some cells':=by
       rw[←f1];simp
      simp only[Instr.buildSlice,Sem.run_bind,hu,Result.andThen_ok,hsz]
      rw[if_neg hsm]
      by_cases hn0:m*ei.size=0
      ·rw[if_pos hn0]at hzc⊢
       subst hzc
       simp only[Sem.run_pure,Result.andThen_ok,Sem.run_bind,f1',newRow,newObj,Sem.run]
       rfl
      ·rw[if_neg hn0]at hzc⊢
       subst hzc
       simp only[Sem.run_pure,Result.andThen_ok,hz,Sem.run_bind,f1',newRow,newObj,Sem.run]
       rfl
     ·simp at h
    ·simp at h
   ·simp at h
  ·simp at h
 ·simp at h
theorem DG (hp0:ProgOk P c) {t m d:Nat} {parts:Array (Nat×Operand)} {cs:List AV} {e2:Env} (hg:o.guard=none) (ho:o.op=.buildSlice t m parts) (hd:o.dst=some d) (hl:look σ (2*d)=none) (hs:Of c.te t m env parts.toList=some cs)
  (hp:BD n o.dst (.row (2*d) 1 0 m) env=some e2) (h:AU P n ops rest e2 ((2*d,.cells cs)::σ) k):AU P n ops (o::rest) env σ k:=by
 simp only[AU,AZ,hg]
 intro w g a hi hee
 obtain⟨cells',e,w',h1,h2,h3,h4⟩:=M0 (P:=P) hp0.te hee hs
 obtain⟨k1,k2,k3⟩:=Gm hi hl h2 (B:=.cells cs) (fun hr=>⟨w.heap.size,cells',e,by simp[G.with],.inr rfl,h2.new,by rw[←h3.1];simp,fun i v x hv hx=>hr _ _ (h3.2 i v x (by rw[Array.getElem?_toList];exact hv) hx)⟩)
 refine BJ.value (v:=.slice (some ⟨w.heap.size,0,none⟩) m m) (w':=w') ?_ ⟨_,_,_,⟨_,k1,?_,k2,hee.mono k3⟩,e2,hp,h⟩
 ·simp only[execOp,ho,Sem.run_bind]
  simp[h1]
 ·have hcs:cells'.size=m:=by have:=h3.1;simp at this;omega
  exact .row (2*d) 1 0 m w.heap.size 0 m e cells'.size (by simp[G.with]) (by simp[World.shape?,h2.new]) (.inl Y) (Nat.le_refl _) (by rw[hcs];omega)
theorem ML {w:World} {g:G} {te:TE} (hte:CH P te) (hi:Inv w g σ) {t ty e:Nat} (hu:P.underlying t=some (.slice e)) {ei:TI} (hei:look te e=some ei) (h1:ei.size=1) {ux:Value} {b m:Nat} {ds:List AV} (hb:look σ b=some (.cells ds)) (hm:ds.length=m) (hm0:m≠0)
  (hr:Rel w g ux (.row b 1 0 m)) (ha:C6 ds=true): ∃ns,SrcOk P w t t ty e ux m ns ei∧B5 w g ns ds:=by
 obtain⟨inf,hinf,hs1,hs2,hs3⟩:=(hte _ _ hei).info'
 obtain⟨blk,vs,et,q1,q2,q3⟩:=H7 hi hb
 cases hr with
 |rowNil _ _ a0 _ _=>exact absurd rfl hm0
 |row _ _ _ _ blk' off capx e0 n0 hβ hsh hoo hlc hn0=>
  rw[q1]at hβ;cases hβ
  have ho0:off=0:=by rcases hoo with h'|h'<;>omega
  subst ho0
  have hnl:vs.toList.length=m:=by rw[q3.1,hm]
  have hcell: ∀(j:Nat) v,vs.toList[j]?=some v→w.cell? ((⟨blk,0,none⟩:Addr).add j)=some v:=fun j v hv=>by
   rw[B9,CY q2,Nat.zero_add,←Array.getElem?_toList];exact hv
  have hones:=q3.one ha
  refine⟨vs.toList,⟨fun h0=>absurd h0 hm0,fun _ blk' sLen sCap et' cur hg hroom hfit=>?_,fun _ hby=>?_,fun _ b' sLen sCap olds hlo holds hlt hby=>?_⟩,q3⟩
  ·have:=PV (P:=P) t ty e inf hu hinf blk' sLen sCap et' cur hg ⟨blk,0,none⟩ m capx vs.toList (by rw[hnl,hs1,h1,Nat.mul_one]) hcell hones hroom (by rw[hs1];exact hfit)
   rw[hs1]at this;exact this
  ·have hbs:=C1 hby
   exact run_append_nil (P:=P) w t ty e inf (BE ei) hu hinf hs3 ⟨blk,0,none⟩ m capx vs.toList (by rw[hnl,hs1,h1,Nat.mul_one]) hcell O O (by rw[hs2];omega)
  ·have hbs:=C1 hby
   exact run_append_grow (P:=P) w t ty e inf (BE ei) hu hinf hs3 b' sLen sCap olds (by rw[hlo,hs1]) holds ⟨blk,0,none⟩ m capx vs.toList (by rw[hnl,hs1,h1,Nat.mul_one]) hcell O O (growslice_fits O (by rw[hs2];omega))
theorem MY {w w':World} {g:G} {a:Act} {lab e m cap:Nat} {xs:List AV} {ns:List Value} {zs:Array Value} (hi:Inv w g σ) (hl:look σ lab=none) (he:AQ w g a env) (hr:B5 w g ns xs) (hm:xs.length=m) (hcap:m+zs.size=cap) (hw:More w w' (.cells (ns.toArray++zs) e (0,0))):
  ∃j,D6 w g a (.row lab 1 0 m) env ((lab,.cells (xs++List.replicate j .top))::σ) (.slice (some ⟨w.heap.size,0,none⟩) m cap) w':=by
 have hn:ns.length=m:=by rw[hr.1,hm]
 refine⟨zs.size,?_⟩
 have hsz:(ns.toArray++zs).size=m+zs.size:=by simp[hn]
 have hcells:(∀v x,Rel w g v x→Rel w' (g.with lab (some w.heap.size)) v x)→D0 w' (g.with lab (some w.heap.size)) lab (.cells (xs++List.replicate zs.size .top)):=fun hr'=>by
  refine⟨w.heap.size,_,e,by simp[G.with],.inr rfl,hw.new,by simp[hn,hm],fun i v x hv hx=>?_⟩
  by_cases hlt:i<m
  ·rw[List.getElem?_append_left O]at hx
   rw[Array.getElem?_append_left (by simp;omega)]at hv
   exact hr' _ _ (hr.2 i v x (by simpa using hv) hx)
  ·rw[List.getElem?_append_right O,List.getElem?_replicate]at hx
   split at hx
   ·cases hx;exact .top _
   ·cases hx
 obtain⟨k1,k2,k3⟩:=Gm hi hl hw hcells
 refine⟨_,k1,?_,k2,he.mono k3⟩
 exact .row lab 1 0 m w.heap.size 0 cap e (ns.toArray++zs).size (by simp[G.with]) (by simp only[World.shape?,hw.new]) (.inl Y) O (by rw[hsz];omega)
theorem F6 (hp0:ProgOk P c) {cl:Call} {so xo:Operand} {t e d s0 b0 sz0 b m ebb:Nat} {z0 ez:List T} {ek:TK} {es0:List (List T)} {ds:List AV} {e2:Env} (hg:o.guard=none) (ho:o.op=.call cl) (hcl:cl.callee=.builtin .append) (ha:cl.args= #[so,xo])
  (hty:cl.argTypes= #[t,t]) (hd:o.dst=some d) (hs:ev env so=some (.t (.slice .nil sz0 es0))) (hx:ev env xo=some (.row b 1 0 m)) (ht:look c.te t=some ⟨s0,b0,z0,.slice e⟩) (he:look c.te e=some ⟨1,ebb,ez,ek⟩)
  (hb:look σ b=some (.cells ds)) (hm:ds.length=m) (hpos:0<m) (hone:C6 ds=true) (hl:look σ (2*d)=none) (hlim:m*(ebb+1)≤140737488355328) (hp:BD n o.dst (.row (2*d) 1 0 m) env=some e2)
  (h: ∀j,AU P n ops rest e2 ((2*d,.cells (ds++List.replicate j .top))::σ) k):AU P n ops (o::rest) env σ k:=by
 simp only[AU,AZ,hg]
 intro w g a hi hee
 have hut:=JS hp0 ht
 have hus:a.eval so=.slice none 0 0:=by
  rcases BW (AE (AO hee hs))with⟨h1,_⟩|⟨_,_,_,_,_,_,h1,_⟩|⟨_,_,_,h1⟩
  ·exact h1
  ·exact absurd rfl h1
  ·exact absurd rfl h1
 obtain⟨ns,hsrc,hns⟩:=ML (ty:=o.type) hp0.te hi hut he rfl hb hm O (AO hee hx) hone
 have hrun:=hsrc.nil O hlim
 have hge:=grownCap_ge w m 0 e
 have hzs:(BE (⟨1,ebb,ez,ek⟩:TI)).cells.size=1:=Ib (hp0.te _ _ he)
 obtain⟨j,hpost⟩:=MY (m:=m) (cap:=grownCap w m 0 e) (zs:=Builtin.zeroCells (BE (⟨1,ebb,ez,ek⟩:TI)).cells (grownCap w m 0 e-m)) hi hl hee hns hm (by rw[size_zeroCells,hzs];omega) (More.drewAlloc w _)
 exact BJ.value (v:=.slice (some ⟨w.heap.size,0,none⟩) m (grownCap w m 0 e)) (w':=w.drew.alloc (.cells (ns.toArray++Builtin.zeroCells (BE (⟨1,ebb,ez,ek⟩:TI)).cells (grownCap w m 0 e-m)) e)) (by simp[execOp,ho,resolve,hcl,invoke,builtin,ha,hty,hus,hrun]) ⟨_,_,_,hpost,e2,hp,h j⟩
theorem IW {w:World} {g:G} {b:Nat} {vs:List Value} {xs:List AV} (h:B5 w g vs xs) (hb:I1 b xs=false):B5 w (g.without b) vs xs:=
 ⟨h.1,fun i v x hv hx=>Rel.mono_but (g:=g) (g':=g.without b) b (fun _ _ _ h1 h2=>⟨h1,h2⟩) (fun c p hc hp=>by simp only[G.without,if_neg hc];exact hp) (fun _ _ hp=>hp) (h.2 i v x hv hx) (FV hb i x hx)⟩
theorem Id (hp0:ProgOk P c) {cl:Call} {so xo:Operand} {t e s0 b0 b b' len m ebb:Nat} {z0 ez:List T} {ek:TK} {cs ds:List AV} {e2:Env} (hg:o.guard=none) (ho:o.op=.call cl) (hcl:cl.callee=.builtin .append) (ha:cl.args= #[so,xo])
  (hty:cl.argTypes= #[t,t]) (hs:ev env so=some (.row b 1 0 len)) (hx:ev env xo=some (.row b' 1 0 m)) (ht:look c.te t=some ⟨s0,b0,z0,.slice e⟩) (he:look c.te e=some ⟨1,ebb,ez,ek⟩)
  (hb:look σ b=some (.cells cs)) (hlen:Nat.ble len cs.length=true) (hbx:Nat.beq (b % 2) 0=true) (hb':look σ b'=some (.cells ds)) (hm:ds.length=m) (hlp:0<len) (hpos:0<m) (hone:C6 ds=true) (hno:I1 b (cs.take len)=false) (hno':I1 b ds=false)
  (hlim:(len+m)*(ebb+1)≤140737488355328) (hp:BD n o.dst (.row b 1 0 (len+m)) (Ew b env)=some e2)
  (h: ∀j,AU P n ops rest e2 ((b,.cells (cs.take len++ds++List.replicate j .top))::C0 b σ) k):AU P n ops (o::rest) env σ k:=by
 simp only[AU,AZ,hg]
 intro w g a hi hee
 have hlen:=Nat.le_of_ble_eq_true hlen
 have hut:=JS hp0 ht
 obtain⟨ns,hsrc,hns⟩:=ML (ty:=o.type) hp0.te hi hut he rfl hb' hm O (AO hee hx) hone
 obtain⟨hext,hi1,hk⟩:=SQ hi b (fun hb=>by have:=(hi.bx _ hb).1;have:=Nat.eq_of_beq_eq_true hbx;omega)
 have he1:=hk a env hee
 have hlk:look (C0 b σ) b=none:=by rw[CG];simp
 have hzs:(BE (⟨1,ebb,ez,ek⟩:TI)).cells.size=1:=Ib (hp0.te _ _ he)
 have hnl:ns.length=m:=by rw[hns.1,hm]
 obtain⟨blk,vs,et,h1,h2,h3,h4,h5⟩:=hi.ok b _ hb
 have hsr:=AO hee hs
 generalize hus:a.eval so=us at hsr
 cases hsr with
 |rowNil _ _ a0 _ _=>exact absurd rfl (by omega: ¬(0:Nat)=0)
 |row _ _ _ _ blk' off cap e0 n0 hβ hsh hoo hlc hn0=>
  rw[h1]at hβ;cases hβ
  have ho0:off=0:=by rcases hoo with h'|h'<;>omega
  subst ho0
  have hn0':n0=vs.size:=by simp only[World.shape?,h3,Option.some.injEq,Prod.mk.injEq]at hsh;exact hsh.2.symm
  have hold:B5 w g (vs.toList.take len) (cs.take len):=⟨by simp[h4],fun i v x hv hx=>by
   rw[List.getElem?_take]at hv hx
   split at hv
   ·rename_i hlt;rw[if_pos hlt]at hx
    exact h5 i v x (by rw[←Array.getElem?_toList];exact hv) hx
   ·simp at hv⟩
  have hall:B5 w (g.without b) (vs.toList.take len++ns) (cs.take len++ds):=by
   have q1:=IW hold hno
   have q2:=IW hns hno'
   refine⟨by simp only[List.length_append];rw[q1.1,q2.1],fun i v x hv hx=>?_⟩
   by_cases hlt:i<(cs.take len).length
   ·rw[List.getElem?_append_left hlt]at hx
    rw[List.getElem?_append_left (by rw[q1.1];exact hlt)]at hv
    exact q1.2 i v x hv hx
   ·rw[List.getElem?_append_right O]at hx
    rw[List.getElem?_append_right (by rw[q1.1];omega),q1.1]at hv
    exact q2.2 _ v x hv hx
  have htl:(vs.toList.take len).length=len:=by simp;omega
  have hcl':(cs.take len++ds).length=len+m:=by simp;omega
  by_cases hroom:len+m≤cap
  ·have hfit:len*1+ns.length≤vs.size:=by omega
   have hrun:=hsrc.room O blk len cap et vs h3 hroom hfit
   have hvsz:(vs.toList.take (len*1)++ns++vs.toList.drop (len*1+ns.length)).toArray.size=vs.size:=by
    simp only[List.size_toArray,List.length_append,List.length_take,List.length_drop,Array.length_toList];omega
   have hsets:=Sets.setRow h3 (vs.toList.take (len*1)++ns++vs.toList.drop (len*1+ns.length)).toArray
   have hno2: ∀c,(g.without b).β c≠some (some blk):=by
    intro c hc
    simp only[G.without]at hc
    split at hc
    ·cases hc
    ·rename_i hne;exact hne (hi.inj _ _ _ hc h1)
   have hcells:(∀v x,Rel w (g.without b) v x→Rel (w.setRow blk (vs.toList.take (len*1)++ns++vs.toList.drop (len*1+ns.length)).toArray) ((g.without b).with b (some blk)) v x)→
     D0 (w.setRow blk (vs.toList.take (len*1)++ns++vs.toList.drop (len*1+ns.length)).toArray) ((g.without b).with b (some blk)) b (.cells (cs.take len++ds++List.replicate (vs.size-(len+m)) .top)):=fun hr'=>by
    refine⟨blk,_,et,by simp[G.with],.inr rfl,hsets.new,by rw[hvsz,List.length_append,hcl',List.length_replicate];omega,fun i v x hv hx=>?_⟩
    by_cases hlt:i<len+m
    ·rw[List.getElem?_append_left O]at hx
     have hv':(vs.toList.take (len*1)++ns++vs.toList.drop (len*1+ns.length))[i]?=some v:=by simpa using hv
     rw[Nat.mul_one,List.getElem?_append_left (by rw[List.length_append,htl,hnl];exact hlt)]at hv'
     exact hr' _ _ (hall.2 i v x hv' hx)
    ·rw[List.getElem?_append_right O,List.getElem?_replicate]at hx
     split at hx
     ·cases hx;exact .top _
     ·cases hx
   obtain⟨k1,k2,k3⟩:=IV hi1 hlk h2 (hi.sx.bs _ _ h1) hno2 h3 hvsz hsets hcells
   refine BJ.value (v:=.slice (some ⟨blk,0,none⟩) (len+m) cap) (w':=w.setRow blk (vs.toList.take (len*1)++ns++vs.toList.drop (len*1+ns.length)).toArray) (by
    simp only[execOp,ho,resolve,hcl,invoke,builtin,ha,hty,hus,Sem.run_bind,Sem.run_pure,Result.andThen_ok];simp[hus,hrun]) ⟨_,_,_,⟨_,hext.trans k1,?_,k2,he1.mono k3⟩,e2,hp,h _⟩
   exact .row b 1 0 _ blk 0 cap e0 n0 (by simp[G.with]) (k1.shape _ _ hsh) (.inl Y) hroom hn0
  ·have holds: ∀(j:Nat) v,(vs.toList.take len)[j]?=some v→w.cell? ((⟨blk,0,none⟩:Addr).add j)=some v:=by
    intro j v hv
    rw[List.getElem?_take]at hv
    split at hv
    ·rw[B9,CY h3,←Array.getElem?_toList,Nat.zero_add];exact hv
    ·simp at hv
   have hrun:=hsrc.grow O ⟨blk,0,none⟩ len cap (vs.toList.take len) (by rw[htl,Nat.mul_one]) holds O hlim
   have hge:=grownCap_ge w (len+m) cap e
   have harr:(vs.toList.take len).toArray++ns.toArray=(vs.toList.take len++ns).toArray:=by simp
   obtain⟨j,hpost⟩:=MY (e:=e) (m:=len+m) (cap:=grownCap w (len+m) cap e) (zs:=Builtin.zeroCells (BE (⟨1,ebb,ez,ek⟩:TI)).cells (grownCap w (len+m) cap e-(len+m))) hi1 hlk he1 hall hcl' (by rw[size_zeroCells,hzs];omega) (More.drewAlloc w _)
   exact BJ.value (v:=.slice (some ⟨w.heap.size,0,none⟩) (len+m) (grownCap w (len+m) cap e)) (w':=w.drew.alloc (.cells ((vs.toList.take len++ns).toArray++Builtin.zeroCells (BE (⟨1,ebb,ez,ek⟩:TI)).cells (grownCap w (len+m) cap e-(len+m))) e)) (by
    rw[←harr];simp only[execOp,ho,resolve,hcl,invoke,builtin,ha,hty,hus,Sem.run_bind,Sem.run_pure,Result.andThen_ok];simp[hus,hrun]) ⟨_,_,_,hpost.lift hext,e2,hp,h j⟩
theorem Cr (hp0:ProgOk P c) {t b kc:Nat} {ti:TI} {cs:List AV} {y:AV} {xo:Operand} {e2:Env} (hg:o.guard=none) (ho:o.op=.load t xo) (hx:ev env xo=some (.eref b 1 kc 0)) (ht:look c.te t=some ti) (hb:look σ b=some (.cells cs)) (he:cs[kc]?=some y) (ha:ti.kind.agg=false)
  (hp:BD n o.dst y env=some e2) (h:AU P n ops rest e2 σ k):AU P n ops (o::rest) env σ k:=by
 simp only[AU,AZ,hg]
 intro w g a hi hee
 have hr:=AO hee hx
 obtain⟨blk',vs,e,h1,h2,h3⟩:=H7 hi hb
 generalize hu:a.eval xo=ux at hr
 cases hr with
  |eref _ _ _ _ blk hβ=>
   rw[h1]at hβ;cases hβ
   have hlt:=Bp he
   have hsz:=(hp0.te _ _ ht).one ha
   obtain⟨v,hv⟩: ∃v,vs.toList[kc]?=some v:=⟨vs.toList[kc]'(by rw[h3.1];exact hlt),List.getElem?_eq_getElem _⟩
   have hrun:=Fz (P:=P) hp0.te (w:=w) ht (b:=blk') (off:=kc*1+0) (vs:=[v]) (by simp[hsz]) (fun i u hu=>by
    cases i with
    |zero=>simp at hu;subst hu;rw[CY h2,←Array.getElem?_toList];simpa using hv
    |succ i=>simp at hu)
   rw[ha]at hrun
   exact BJ.value (v:=v) (w':=w) (by have hrun':(loadVar t ⟨blk',kc,none⟩).run P w=.ok v w:=(by simpa using hrun);simp[execOp,ho,hu,Instr.loadAt,Instr.sureAddr,hrun']) ⟨_,_,_,⟨g,Ext.refl _ _,h3.2 kc v y hv he,hi,hee⟩,e2,hp,h⟩
end
end Go.Am
