/- Contracts and laws, joined: Tn, Le. No condition beside those that each theorem names. -/
import Derived.Test.YtpdmaenhenfofaaGreatDoorZM10
import Derived.Test.YtpdmaenhenfofaaGreatDoorZJ16
import Derived.Test.YtpdmaenhenfofaaGreatDoorZJ7
import Derived.Test.YtpdmaenhenfofaaGreatDoorZJ13
import Derived.Test.YtpdmaenhenfofaaGreatDoorZTb
set_option linter.unusedVariables false
set_option linter.unusedSimpArgs false
namespace Go.Proofs.YtpdmaenhenfofaaGreatDoor
open Go.Am
attribute [local irreducible] Decidable.decide
set_option maxRecDepth 100000
set_option maxHeartbeats 1000000
structure TwiceLaw (e:Int) (l:List Act2) (Q:Nat→Part→Prop):Prop where
 zero:Q 0 Cq
 small: ∀{i:Nat} {p:Part},Q i p→Bt p
 recs: ∀{i:Nat} {a:Act2},l[i]?=some a→a.b.recs.length≤1000000
 step: ∀{i:Nat} {p:Part} {a:Act2},Q i p→l[i]?=some a→Q (i+1) (Cw e p a).part
 again: ∀{i:Nat} {p:Part} {a:Act2},Q i p→l[i]?=some a→(Cw e p a).e=0→a.kind<2→(Cw e (Cw e p a).part a).e=0∧(Cw e (Cw e p a).part a).part=(Cw e p a).part∧(Cw e (Cw e p a).part a).w=[]∧(a.kind=0→(Cw e (Cw e p a).part a).base=(Cw e p a).base)
 told: ∀{i:Nat} {p:Part} {a:Act2},Q i p→l[i]?=some a→(Cw e p a).e=0→a.kind=0→(Cw e p a).w≠[]→CK (Cw e p a).part.prods a.b.pid=true∧((AX (Cw e p a).part.prods a.b.pid).next=IntKind.i64.wrap (a.b.seq+((a.b.recs.map Bu).length:Int)))∧(AX (Cw e p a).part.prods a.b.pid).seen≠[]
end Go.Proofs.YtpdmaenhenfofaaGreatDoor
namespace Go.Proofs.YtpdmaenhenfofaaGreatDoor
open Go.Am
attribute [local irreducible] Decidable.decide
set_option maxRecDepth 100000
set_option maxHeartbeats 1000000
theorem Adv {l:List Prod} {b:Batch} (hl:BO l=true) (hb:A1 b=true) (hc:B4 l b=0) (hi:Cl l b=false): ∀s∈EV l b,EG b s=false:=by
 obtain⟨h1,h2⟩:=Vi hl hb
 rw[h1]at hc;rw[h2]at hi
 intro s hs
 unfold EV at hs
 split at hs
 ·simp at hs
 ·rename_i he
  have he:(AX l b.pid).epoch=b.epoch:=Classical.not_not.1 he
  cases hh:CK l b.pid with
  |false=>rw[O9 hh]at hs;simp[CZ]at hs
  |true=>
   have hcur:DR l b=AX l b.pid:=by simp[DR,hh,he]
   have hf:CL l b=false:=by simp[CL,hh,he]
   have ha:(DR l b).seen.any (EG b)=false:=by simpa[Hd,hf]using hi
   rw[hcur]at ha
   simpa using List.any_eq_false.1 ha s hs
theorem V2 {l:List Prod} {b:Batch} {base:Int} (hl:BO l=true) (hb:A1 b=true) (hc:B4 l b=0) (hi:Cl l b=false) (hbase: -1≤base∧base≤1048576):B4 (Dt l (Bx l b base)) b=0∧Cl (Dt l (Bx l b base)) b=true∧Fa (Dt l (Bx l b base)) b=base:=by
 have hno:=Adv hl hb hc hi
 have hl':=H1 hl (Jf hl hb hc hi hbase)
 have hf:=HC (p:=Bx l b base) hl b.pid
 rw[if_pos (show(Bx l b base).pid=b.pid from rfl)]at hf
 have hh:CK (Dt l (Bx l b base)) b.pid=true:=by rw[Jh hl];simp[Bx]
 have e1:(Bx l b base).epoch=b.epoch:=rfl
 have hcur:DR (Dt l (Bx l b base)) b=Bx l b base:=by simp[DR,hh,hf,e1]
 have hfe:CL (Dt l (Bx l b base)) b=false:=by simp[CL,hf,e1]
 have hfd:(Bx l b base).seen.find? (EG b)=some ⟨b.seq,b.recs.length,base⟩:=by
  simp only[Bx,II]
  rw[List.drop_append_of_le_length Z,List.find?_append]
  rw[List.find?_eq_none.2 (fun s hs=>by rw[hno s (List.mem_of_mem_drop hs)];simp)]
  simp[EG]
 have hany:(Bx l b base).seen.any (EG b)=true:=List.any_eq_true.2 ⟨_,List.mem_of_find?_eq_some hfd,List.find?_some hfd⟩
 obtain⟨h1,h2⟩:=Vi hl' hb
 refine⟨?_,?_,?_⟩
 ·rw[h1];simp[Ee,hfe,hcur,hany]
 ·rw[h2];simp[Hd,hfe,hcur,hany]
 ·simp[Fa,MH,hl',hb,He,hcur,hany,hfd,hfe]
theorem Vu {e q:Int} {p p':Part} (h:DQ e q p=false) (hp:POk p'):DQ e q p'=false:=by
 have h2:=Aoo.2 hp
 simp only[DQ,Bool.or_eq_false_iff,Bool.not_eq_false']at h⊢
 exact⟨h.1,h2,h.2.2⟩
theorem Sj {p:Part} {b:Batch} (h:POk p) (hb:A1 b=true) (hc:B4 p.prods b=0) (hi:Cl p.prods b=false) (hr:Hw p b=none):POk (Hj p b):=by
 cases ht:b.txn with
 |true=>rw[show Hj p b=Gc p b by simp[Hj,ht]];exact Ahr h hb hc hi ht (Fl hr)
 |false=>rw[show Hj p b=Co p b by simp[Hj,ht]];exact TB h hb hc hi ht (Fl hr)
theorem QX {p:Part} {b:Batch} (h:POk p) (hc:B4 p.prods b=0) (hi:Cl p.prods b=false):(Hj p b).prods=Dt p.prods (Bx p.prods b (HQ p b))∧ -1≤HQ p b∧HQ p b≤1048576:=by
 have h0:=h.b0;have h1:=h.b1;have h2:=h.b2
 cases ht:b.txn with
 |true=>
  rw[show HQ p b= -1 by simp[HQ,ht]]
  refine⟨?_,by omega,by omega⟩
  rw[←DT hc hi (base:= -1) ⟨by omega,by omega⟩]
  simp[Hj,ht,Gc]
 |false=>
  rw[show HQ p b=p.fin by simp[HQ,ht]]
  refine⟨?_,by omega,by omega⟩
  rw[←DT hc hi (base:=p.fin) ⟨by omega,by omega⟩]
  simp[Hj,ht,Co]
theorem VT {e q:Int} {p:Part} {b:Batch} (h:(B8 e q p b).e=0):B8 e q (B8 e q p b).part b=⟨(B8 e q p b).part,(B8 e q p b).base,[],0⟩:=by
 obtain⟨hbad,hm,hc,hA⟩:=Nz h
 have hp:=Aoo.1 (F5 hbad).2.2.2
 rcases hA with⟨hi,hP⟩|⟨hi,hrc,hP⟩
 ·rw[hP];simp only
  rw[hP]
 ·rw[hP];simp only
  obtain⟨q1,q2⟩:=QX hp hc hi
  obtain⟨k1,k2,k3⟩:=V2 hp.may hm hc hi q2
  rw[Adk (Vu hbad (Sj hp hm hc hi hrc)) hm (by rw[q1];exact k1),q1,if_pos k2,k3]
theorem Yd {e q:Int} {p:Part} {b:Batch} (h:(B8 e q p b).e=0) (hw:(B8 e q p b).w≠[]):CK (B8 e q p b).part.prods b.pid=true∧((AX (B8 e q p b).part.prods b.pid).next=IntKind.i64.wrap (b.seq+((b.recs.map Bu).length:Int)))∧(AX (B8 e q p b).part.prods b.pid).seen≠[]:=by
 obtain⟨hbad,hm,hc,hA⟩:=Nz h
 have hp:=Aoo.1 (F5 hbad).2.2.2
 have hmb:=AU hm
 rcases hA with⟨hi,hP⟩|⟨hi,hrc,hP⟩
 ·rw[hP]at hw;exact absurd J hw
 ·rw[hP];simp only
  obtain⟨q1,q2⟩:=QX hp hc hi
  have hf:=HC (p:=Bx p.prods b (HQ p b)) hp.may b.pid
  rw[if_pos (show(Bx p.prods b (HQ p b)).pid=b.pid from rfl)]at hf
  rw[q1,hf,Jh hp.may]
  refine⟨by simp[Bx],?_,?_⟩
  ·rw[List.length_map,A0 O O];rfl
  ·intro he
   have:=congrArg List.length he
   simp[Bx,II]at this
   omega
theorem JO {α:Type} {f:α→Int}: ∀{l:List α} {k:Nat} {o x:α},Srt f l→l[k]?=some o→x∈l.eraseIdx k→x∈l∧f x≠f o
 |[],k,o,x,_,h,_=>by simp at h
 |a::r,0,o,x,hs,h,hx=>by
  simp at h;subst h
  simp only[List.eraseIdx_cons_zero]at hx
  have:=(List.pairwise_cons.1 hs).1 x hx
  exact⟨List.mem_cons_of_mem _ hx,by omega⟩
 |a::r,k+1,o,x,hs,h,hx=>by
  simp at h
  simp only[List.eraseIdx_cons_succ]at hx
  have hs':=List.pairwise_cons.1 hs
  rcases List.mem_cons.1 hx with rfl|hx
  ·have:=hs'.1 o (List.mem_of_getElem? h)
   exact⟨by simp,by omega⟩
  ·obtain⟨h1,h2⟩:=JO hs'.2 h hx
   exact⟨List.mem_cons_of_mem _ h1,h2⟩
theorem XL {α:Type} {f:α→Int} {l:List α} {k:Nat} (h:Srt f l):Srt f (l.eraseIdx k):=List.Pairwise.sublist (List.eraseIdx_sublist ..) h
theorem LZ {l:List Prod} (hl:BO l=true) (pid:Int):Cr l pid=if CK l pid=true then Dt l {AX l pid with seen:=[]}else l:=by
 have hs:=(Aon.1 hl).1
 cases hh:CK l pid with
 |false=>
  have:l.findIdx? (fun x=>decide (x.pid=pid))=none:=by rw[List.findIdx?_eq_none_iff];intro x hx;simpa using List.any_eq_false.1 hh x hx
  simp[Cr,this]
 |true=>
  have hh2:l.any (fun p=>decide (p.pid=pid))=true:=hh
  obtain⟨i,x,hx,hi,hfx,hpx⟩:=JK hh2
  have hfp:AX l pid=x:=by simp[AX,hfx]
  have hlt:=(List.getElem?_eq_some_iff.1 hx).1
  have hpid:x.pid=pid:=by simpa using hpx
  have hfi:l.findIdx? (fun x=>decide (x.pid=pid))=some i:=by
   unfold Nn at hi
   cases hf:l.findIdx? (fun x=>decide (x.pid=pid))with
   |none=>rw[hf]at hi;simp at hi;omega
   |some j=>rw[hf]at hi;simp at hi;exact congrArg some O
  rw[if_pos J,hfp,IU hs]
  simp only[Cr,hfi,hx,Oe]
  have hsp:l=l.take i++x::l.drop (i+1):=by rw[←BE hx,List.take_append_drop]
  have hs2:Srt Prod.pid (l.take i++x::l.drop (i+1)):=hsp▸hs
  have h1:=List.pairwise_append.1 hs2
  have h3:=(List.pairwise_cons.1 h1.2.1).1
  refine Nw ?_ (KV hs) fun z=>?_
  ·unfold Srt
   rw[List.pairwise_append,List.pairwise_cons]
   exact⟨h1.1,⟨fun y hy=>h3 y hy,(List.pairwise_cons.1 h1.2.1).2⟩,fun a ha b hb=>by
    rcases List.mem_cons.1 hb with rfl|hb
    ·exact h1.2.2 a ha x Z
    ·exact h1.2.2 a ha b (by simp[hb])⟩
  ·rw[H0]
   simp only[List.mem_append,List.mem_cons]
   constructor
   ·rintro(h|rfl|h)
    ·exact .inr ⟨List.mem_of_mem_take h,by have:=h1.2.2 z h x Z;show z.pid≠x.pid;omega⟩
    ·exact .inl J
    ·exact .inr ⟨List.mem_of_mem_drop h,by have:=h3 z h;show z.pid≠x.pid;omega⟩
   ·rintro(rfl|⟨h,hne⟩)
    ·exact .inr (.inl J)
    ·rw[hsp]at h
     simp only[List.mem_append,List.mem_cons]at h
     rcases h with h|rfl|h
     ·exact .inl h
     ·exact absurd J hne
     ·exact .inr (.inr h)
theorem RC {l:List Prod} (hl:BO l=true) (pid:Int):BO (Cr l pid)=true:=by
 rw[LZ hl]
 split
 ·rename_i hh
  refine H1 hl ?_
  have hk:=(Aon.1 hl).2 _ (FE hh).1
  have hb:=Dh hk
  have:BU {AX l pid with seen:=[]}:=by unfold BU at hb⊢;simp only[List.length_nil];omega
  simp[C2,this,B5]
 ·exact hl
theorem Vg {l:List Prod} (hl:BO l=true) {pid k:Int} (hne:k≠pid):CK (Cr l pid) k=CK l k∧AX (Cr l pid) k=AX l k:=by
 rw[LZ hl]
 split
 ·rename_i hh
  have h2:=(FE hh).2
  have e: ¬({AX l pid with seen:=[]}:Prod).pid=k:=fun e=>hne (by rw[←e];exact h2)
  rw[Jh hl,HC hl,if_neg e]
  simp[e]
 ·exact⟨J,J⟩
theorem NW: ∀{l:List Batch} {f:Int},0≤f→(∀b∈l,A1 b=true)→Srt Row.offset (BN l f)∧ ∀r∈BN l f,f≤r.offset∧r.offset<f+CN l∧HZ r=false
 |[],f,_,_=>⟨List.Pairwise.nil,fun r h=>by simp[BN]at h⟩
 |b::t,f,hf,hb=>by
  have hbm:=hb b Z
  obtain⟨h1,h2⟩:=NW (l:=t) (f:=f+b.recs.length) O fun x hx=>hb x (by simp[hx])
  have h3: ∀r∈BS b f,f≤r.offset∧r.offset<f+b.recs.length:=fun r hr=>by
   obtain⟨i,z,hz,rfl⟩:=Lp hr
   have hlt:=(List.getElem?_eq_some_iff.1 hz).1
   simp only[FA];rw[if_neg O];omega
  refine⟨?_,fun r hr=>?_⟩
  ·simp only[BN,Srt]
   rw[List.pairwise_append]
   exact⟨Tw hf,h1,fun x hx y hy=>by have:=h3 x hx;have:=h2 y hy;omega⟩
  ·simp only[BN,CN]at hr⊢
   rcases List.mem_append.1 hr with hr|hr
   ·have:=h3 r hr;exact⟨by omega,by omega,Xg hbm hr⟩
   ·obtain⟨k1,k2,k3⟩:=h2 r hr;exact⟨by omega,by omega,k3⟩
theorem S6 {e:Int} {p:Part} {k:Nat} {o:Opn} {yes:Bool} (h:POk p) (hk:p.opens[k]?=some o) (hf:p.fin+CN o.batches+1≤1048576):POk (Eb e p k o yes):=by
 have h0:=h.b0;have h1:=h.b1;have h2:=h.b2
 have hcp:=(h.ook o (List.mem_of_getElem? hk)).1
 obtain⟨k1,k2⟩:=NW (l:=o.batches) (f:=p.fin) O fun b hb=>(C8 hcp b hb).1
 have hfin:p.fin≤(Eb e p k o yes).fin∧(Eb e p k o yes).fin≤p.fin+CN o.batches+1∧(yes=true→p.fin+CN o.batches≤(Eb e p k o yes).fin):=by
  have hd:(0:Int)≤(if e=0 then 1 else 0)∧(if e=0 then(1:Int)else 0)≤1:=by split<;>omega
  cases yes with
  |false=>
   simp only[Eb,MB,Bool.false_eq_true,if_false]
   exact⟨by omega,by omega,fun h=>by cases h⟩
  |true=>
   simp only[Eb,MB,if_true]
   exact⟨by omega,by omega,fun _=>by omega⟩
 have hrows: ∀r∈(Eb e p k o yes).rows,r∈p.rows∨(yes=true∧r∈BN o.batches p.fin):=fun r hr=>by
  cases yes with
  |false=>simp only[Eb,MB,Bool.false_eq_true,if_false]at hr;exact .inl hr
  |true=>
   simp only[Eb,MB,if_true]at hr
   rcases List.mem_append.1 hr with hr|hr
   ·exact .inl hr
   ·exact .inr ⟨J,hr⟩
 obtain⟨f1,f2,f3⟩:=hfin
 refine⟨h0,by show p.start≤(Eb e p k o yes).fin;omega,by show(Eb e p k o yes).fin≤1048576;omega,?_,fun r hr=>?_,XL h.osrt,fun r hr=>?_,RC h.may _,fun x hx=>?_⟩
 ·cases yes with
  |false=>simp only[Eb,MB,Bool.false_eq_true,if_false];exact h.srt
  |true=>
   simp only[Eb,MB,if_true,Srt]
   rw[List.pairwise_append]
   exact⟨h.srt,k1,fun x hx y hy=>by have:=h.rin x hx;have:=k2 y hy;omega⟩
 ·show p.start≤r.offset∧r.offset<(Eb e p k o yes).fin
  rcases hrows r hr with hr|⟨hy,hr⟩
  ·have:=h.rin r hr;omega
  ·have:=k2 r hr;have:=f3 hy;omega
 ·rcases hrows r hr with hr|⟨_,hr⟩
  ·exact h.rok r hr
  ·exact(k2 r hr).2.2
 ·obtain⟨q1,q2⟩:=JO h.osrt hk hx
  obtain⟨c1,c2⟩:=Vg h.may (pid:=o.pid) (k:=x.pid) q2
  have:=h.ook x q1
  unfold PE at this⊢
  show _∧CK (Cr p.prods o.pid) x.pid=true∧(AX (Cr p.prods o.pid) x.pid).epoch=_∧(AX (Cr p.prods o.pid) x.pid).next=_
  rw[c1,c2];exact this
theorem Wu {e q:Int} {p:Part} {pid:Int} {yes:Bool} (h:(End e q p pid yes).e=0):DQ e q p=false∧((p.opens.find? (fun o=>decide (o.pid=pid))=none∧End e q p pid yes=⟨p,[],0⟩)∨ ∃(k:Nat) (o:Opn),p.opens[k]?=some o∧o.pid=pid∧End e q p pid yes=⟨Eb e p k o yes,PU e q o yes,0⟩):=by
 unfold End at h
 split at h
 ·simp at h
 ·rename_i hn
  have h1:DQ e q p=false:=by
   cases hb:DQ e q p with
   |false=>rfl
   |true=>exact absurd hb hn
  refine⟨h1,?_⟩
  cases hf:p.opens.find? (fun o=>decide (o.pid=pid))with
  |none=>exact .inl ⟨J,by simp[End,h1,hf]⟩
  |some o=>
   obtain⟨k,hk,hidx,_⟩:=OK hf
   have hpid:o.pid=pid:=by simpa using List.find?_some hf
   exact .inr ⟨k,o,hk,hpid,by simp[End,h1,hf,hidx]⟩
theorem YE {e q:Int} {p:Part} {pid:Int} {yes:Bool} (h:(End e q p pid yes).e=0) (hf:p.fin≤1000000):End e q (End e q p pid yes).part pid yes=⟨(End e q p pid yes).part,[],0⟩:=by
 obtain⟨hbad,hA⟩:=Wu h
 have hp:=Aoo.1 (F5 hbad).2.2.2
 rcases hA with⟨hn,hP⟩|⟨k,o,hk,hpid,hP⟩
 ·rw[hP];simp only
  rw[hP]
 ·rw[hP];simp only
  have hcp:=(hp.ook o (List.mem_of_getElem? hk)).1
  have hl:=Cc hcp
  have hr:=Ez (l:=o.batches) fun b hb=>(C8 hcp b hb).1
  have hok:=S6 (e:=e) (yes:=yes) hp hk O
  have hn:(Eb e p k o yes).opens.find? (fun o=>decide (o.pid=pid))=none:=by
   rw[List.find?_eq_none]
   intro x hx
   have:=(JO hp.osrt hk hx).2
   simp;omega
  simp[End,Vu hbad hok,hn]
structure TQ (i:Nat) (p:Part):Prop where
 small:Bt p
 fin:p.fin≤40*i
 rows:p.rows.length≤40*i
 opens:p.opens.length≤i
theorem TQ.up {i:Nat} {p:Part} (h:TQ i p):TQ (i+1) p:=⟨h.small,by have:=h.fin;omega,by have:=h.rows;omega,by have:=h.opens;omega⟩
theorem TQ.one {i:Nat} {p:Part} {b:Batch} (h:TQ i p) (hi:i≤1000) (hp:POk p) (hb:A1 b=true) (hok:POk (Hj p b)):TQ (i+1) (Hj p b):=by
 have hm:=AU hb
 have h1:=h.fin;have h2:=h.rows;have h3:=h.opens
 have hlr:(BS b p.fin).length=b.recs.length:=ZE
 have k1:(Hj p b).rows.length≤p.rows.length+4:=by
  cases ht:b.txn with
  |true=>simp[Hj,ht,Gc]
  |false=>simp[Hj,ht,Co];omega
 have k2:(Hj p b).opens.length≤p.opens.length+1:=by
  cases ht:b.txn with
  |true=>simp only[Hj,ht,if_true,Gc];exact Aox
  |false=>simp[Hj,ht,Co]
 have k3:(Hj p b).fin≤p.fin+4:=by
  cases ht:b.txn with
  |true=>simp[Hj,ht,Gc];omega
  |false=>simp[Hj,ht,Co];omega
 exact⟨QV hok O O,by omega,by omega,by omega⟩
theorem TQ.end {i:Nat} {e:Int} {p:Part} {k:Nat} {o:Opn} {yes:Bool} (h:TQ i p) (hi:i≤1000) (hp:POk p) (hk:p.opens[k]?=some o):TQ (i+1) (Eb e p k o yes):=by
 have h1:=h.fin;have h2:=h.rows;have h3:=h.opens
 have hcp:=(hp.ook o (List.mem_of_getElem? hk)).1
 have hl:=Cc hcp
 have hr:=Ez (l:=o.batches) fun b hb=>(C8 hcp b hb).1
 have hok:=S6 (e:=e) (yes:=yes) hp hk O
 have hd:(0:Int)≤(if e=0 then 1 else 0)∧(if e=0 then(1:Int)else 0)≤1:=by split<;>omega
 have k1:(Eb e p k o yes).rows.length≤p.rows.length+32:=by
  cases yes with
  |false=>simp only[Eb,MB,Bool.false_eq_true,if_false];omega
  |true=>simp only[Eb,MB,if_true,List.length_append,GU];omega
 have k2:(Eb e p k o yes).opens.length≤p.opens.length:=by
  simp only[Eb];rw[List.length_eraseIdx];split<;>omega
 have k3:(Eb e p k o yes).fin≤p.fin+33:=by
  cases yes with
  |false=>simp only[Eb,MB,Bool.false_eq_true,if_false];omega
  |true=>simp only[Eb,MB,if_true];omega
 exact⟨QV hok O O,by omega,by omega,by omega⟩
theorem TQ.cut {i:Nat} {p:Part} {n:Int} (h:TQ i p):TQ (i+1) (LW p n):=by
 obtain⟨s1,s2,s3,s4⟩:=h.small
 have hl:(p.rows.filter (fun r=>decide (n≤r.offset))).length≤p.rows.length:=List.length_filter_le ..
 have h1:=h.fin;have h2:=h.rows;have h3:=h.opens
 exact⟨⟨by simp only[LW];omega,s2,s3,s4⟩,by simp only[LW];omega,by simp only[LW];omega,by simp only[LW];omega⟩
theorem R8 {e:Int} {i:Nat} {p:Part} {a:Act2} (h:TQ i p) (hi:i≤1000):TQ (i+1) (Cw e p a).part:=by
 unfold Cw
 split
 ·split
  ·exact h.up
  ·rename_i hz
   obtain⟨hbad,hm,hc,hA⟩:=Nz (Classical.not_not.1 hz)
   have hp:=Aoo.1 (F5 hbad).2.2.2
   rcases hA with⟨_,hP⟩|⟨hi2,hrc,hP⟩
   ·rw[hP];exact h.up
   ·rw[hP];exact h.one hi hp hm (Sj hp hm hc hi2 hrc)
 ·split
  ·split
   ·exact h.up
   ·rename_i hz
    obtain⟨hbad,hA⟩:=Wu (Classical.not_not.1 hz)
    have hp:=Aoo.1 (F5 hbad).2.2.2
    rcases hA with⟨_,hP⟩|⟨k,o,hk,_,hP⟩
    ·rw[hP];exact h.up
    ·rw[hP];exact h.end hi hp hk
  ·split
   ·split
    ·exact h.up
    ·rename_i hz
     have hz:=Classical.not_not.1 hz
     unfold Cut at hz⊢
     split
     ·rename_i hb;rw[if_pos hb]at hz;simp at hz
     ·rename_i hb
      rw[if_neg hb]at hz
      split
      ·rename_i hin;rw[if_pos hin]at hz;simp at hz
      ·exact h.cut
   ·exact h.up
theorem XE {e:Int} {l:List Act2} (hg:DP l=false):TwiceLaw e l (fun i p=>TQ i p∧i≤l.length):=by
 simp only[DP,Bool.or_eq_false_iff,decide_eq_false_iff_not]at hg
 obtain⟨h60,hall⟩:=hg
 refine⟨⟨⟨QV Xk Ab Ab,by decide,by decide,by decide⟩,Nat.zero_le _⟩,fun h=>h.1.small,fun{i a} ha=>?_,fun{i p a} hQ ha=>⟨R8 hQ.1 O,(List.getElem?_eq_some_iff.1 ha).1⟩,fun{i p a} hQ ha he hk=>?_,fun{i p a} hQ ha he hk hw=>?_⟩
 ·have:=List.any_eq_false.1 hall a (List.mem_of_getElem? ha)
  have:=(Km (by simpa using this)).2 a.b Z
  omega
 ·have hfin:=hQ.1.fin
  have hil:=hQ.2
  by_cases h0:a.kind=0
  ·have hz:(B8 e 1 p (txB a)).e=0:=by
    unfold Cw at he;rw[if_pos h0]at he
    split at he
    ·exact he
    ·rename_i hz;exact Classical.not_not.1 hz
   have hd: ∀p',(B8 e 1 p' (txB a)).e=0→Cw e p' a=B8 e 1 p' (txB a):=fun p' h=>by unfold Cw;rw[if_pos h0,if_neg (by simpa using h)]
   rw[hd p hz]
   have hag:=VT hz
   rw[hd _ (by rw[hag]),hag]
   exact⟨J,J,J,fun _=>rfl⟩
  ·by_cases h1:a.kind=1
   ·have hz:(End e 1 p a.pid a.yes).e=0:=by
     unfold Cw at he;rw[if_neg h0,if_pos h1]at he
     split at he
     ·exact he
     ·rename_i hz;exact Classical.not_not.1 hz
    have hd: ∀p',(End e 1 p' a.pid a.yes).e=0→Cw e p' a=⟨(End e 1 p' a.pid a.yes).part,0,(End e 1 p' a.pid a.yes).w,(End e 1 p' a.pid a.yes).e⟩:=fun p' h=>by unfold Cw;rw[if_neg h0,if_pos h1,if_neg (by simpa using h)]
    rw[hd p hz]
    simp only
    have hag:=YE hz O
    rw[hd _ (by rw[hag]),hag]
    exact⟨J,J,J,fun h=>absurd h h0⟩
   ·have h2:a.kind≠2:=by omega
    have hd: ∀p',Cw e p' a=⟨p',0,[],0⟩:=fun p'=>by unfold Cw;rw[if_neg h0,if_neg h1,if_neg h2]
    rw[hd p,hd]
    exact⟨J,J,J,fun _=>rfl⟩
 ·have hz:(B8 e 1 p (txB a)).e=0:=by
   unfold Cw at he;rw[if_pos hk]at he
   split at he
   ·exact he
   ·rename_i hz;exact Classical.not_not.1 hz
  have hd:Cw e p a=B8 e 1 p (txB a):=by unfold Cw;rw[if_pos hk,if_neg (by simpa using hz)]
  rw[hd]at hw⊢
  exact Yd hz hw
end Go.Proofs.YtpdmaenhenfofaaGreatDoor
