/- Contracts and laws, joined: Qm, Qn, Qo, Qr, Qx, Qs, Lc, Ld, Qz, Tb. No condition beside those that each theorem names. -/
import Derived.Test.YtmohpcgmdheafaaGreatDoorZK7
import Derived.Shelf.Spec.SlicesInsertGrow
set_option linter.unusedVariables false
set_option linter.unusedSimpArgs false
set_option maxRecDepth 100000
set_option maxHeartbeats 8000000
namespace Go.Proofs.YtmohpcgmdheafaaGreatDoor
open Go.Am
attribute [local irreducible] Decidable.decide
theorem ctT {P:Program} {c:Conf} (hp:ProgOk P c) (d:Nat) {f:Nat} {xs:List AV} {x:T} (h:(P3 P c d f xs []).map (·.1)=some (.t x)):Ct P f xs [] (.t x) []:=by
 cases hc:P3 P c d f xs []with
 |none=>rw[hc]at h;cases h
 |some q=>
  obtain⟨r,σ2⟩:=q
  rw[hc]at h
  simp at h
  subst h
  obtain⟨e,s,hz⟩:=Jr (r:=.t x) (fun _=>rfl) σ2 [] σ2
  exact Ct.freeze (ctV hp d hc) hz Y
def Ex (e i:Int):Bs:=[if e=0 then 105 else 98,UInt8.ofNat (48+i.toNat)]
def M7 (i p:Int):Bs:=[98,UInt8.ofNat (48+i.toNat),46,UInt8.ofNat (48+p.toNat)]
theorem Asm (e i:Int) (he:e=0\/e=1) (hi:i=0\/i=1\/i=2):A17 412 [.t (.int .i8 e),.t (.int .i64 i)] [] (.t (.str (Ex e i))) []:=by
 rcases he with rfl|rfl<;>rcases hi with rfl|rfl|rfl<;>exact ctT UO 60 Ab
theorem Ak8 (i p:Int) (hi:i=0\/i=1\/i=2) (hp:p=1\/p=2\/p=3\/p=4\/p=5\/p=6\/p=7\/p=8):A17 435 [.t (.int .i64 i),.t (.int .i64 p)] [] (.t (.str (M7 i p))) []:=by
 rcases hi with rfl|rfl|rfl<;>rcases hp with rfl|rfl|rfl|rfl|rfl|rfl|rfl|rfl<;>exact ctT UO 60 Ab
end Go.Proofs.YtmohpcgmdheafaaGreatDoor
namespace Go.Proofs.YtmohpcgmdheafaaGreatDoor
open Go.Am
attribute [local irreducible] Decidable.decide Tr A2 hSK hSW
def CM (e i:Int):List T:=[.int .i8 e,.int .i64 i]
theorem Q9 (e i:Int) (he:e=0\/e=1) (hi:i=0\/i=1\/i=2):A17 411 [.agg (Ah (CM e i))] [] (.t (.str (Ex e i))) []:=by
 refine ct0 Ag Tryz.func411 Y false Y Y ?_
 repeat'(first|exact prB|refine stC ?_|refine stU (fun h=>?_) fun h=>?_|refine stN (fun b hb=>?_)|refine stL ?_ (c:=Asm e i he hi)|fail)
 exact Ai Y (A1x _)
def Ar9 (e i:Int) (b:Batch):Bs:=if e=1/\b.txn=true then M7 i b.pid else Ex e i
def ofW (e i:Int) (p:Part):T:=if(i<0\/3<=i)\/Bb p=false then .nilIface else if e=0 then .iface 237 (.agg (CM e i))else if e=1 then .iface 238 (.agg (CM e i))else .nilIface
def ofE (e i:Int) (p:Part):T:=if i<0\/3<=i then CE 231 [97,32,112,97,114,116,105,116,105,111,110] 2 else if Bb p=false then enT p else if e=0\/e=1 then .nilIface else CE 231 [97,110,32,101,110,103,105,110,101] 2
theorem Aq6 (e i:Int) (p:Part) (hs:AR p):A17 73 [.t (.int .i8 e),.t (.int .i64 i),.agg (Ah (AD p))] [] (.tuple [.t (ofW e i p),.t (ofE e i p)]) []:=by
 have cc:=TX p hs
 refine ct0 Ag Tryz.func73 Y false Y Y ?_
 cases hpk:Bb p with
 |false=>
  have he:enT p=CE 231 (Px p) 2:=by simp[enT,hpk]
  have hw:ofW e i p=.nilIface:=by simp[ofW,hpk]
  have h2: ¬(i<0\/3<=i)->ofE e i p=CE 231 (Px p) 2:=fun hn=>by simp only[ofE,if_neg hn,hpk,if_true,he]
  have h1:(i<0\/3<=i)->ofE e i p=CE 231 [97,32,112,97,114,116,105,116,105,111,110] 2:=fun hn=>by simp only[ofE,if_pos hn]
  rw[he]at cc
  repeat'(first|exact prB|refine stC ?_|refine stU (fun h=>?_) fun h=>?_|refine stN (fun b hb=>?_)|refine stL ?_ (c:=cc)|fail)
  all_goals first
   |(refine Ai Y (A1y ?_);rw[hw,h1 Aa]<;>rfl)
   |(refine Ai Y (A1y ?_);rw[hw,h2 Aa]<;>rfl)
 |true=>
  have he:enT p=.nilIface:=by simp[enT,hpk]
  rw[he]at cc
  have w1:(i<0\/3<=i)->ofW e i p=.nilIface:=fun hn=>by simp only[ofW,if_pos (Or.inl hn:(i<0\/3<=i)\/Bb p=false)]
  have x1:(i<0\/3<=i)->ofE e i p=CE 231 [97,32,112,97,114,116,105,116,105,111,110] 2:=fun hn=>by simp only[ofE,if_pos hn]
  have n1: ¬(i<0\/3<=i)-> ¬((i<0\/3<=i)\/Bb p=false):=fun hn hh=>hh.elim hn (fun h'=>by rw[hpk]at h';cases h')
  have w2: ¬(i<0\/3<=i)->e=0->ofW e i p=.iface 237 (.agg (CM e i)):=fun hn he=>by simp only[ofW,if_neg (n1 hn),if_pos he]
  have w3: ¬(i<0\/3<=i)->e≠0->e=1->ofW e i p=.iface 238 (.agg (CM e i)):=fun hn h0 he=>by simp only[ofW,if_neg (n1 hn),if_neg h0,if_pos he]
  have w4: ¬(i<0\/3<=i)->e≠0->e≠1->ofW e i p=.nilIface:=fun hn h0 he=>by simp only[ofW,if_neg (n1 hn),if_neg h0,if_neg he]
  have hpf: ¬Bb p=false:=by rw[hpk];simp
  have x2: ¬(i<0\/3<=i)->(e=0\/e=1)->ofE e i p=.nilIface:=fun hn he=>by simp only[ofE,if_neg hn,if_neg hpf,if_pos he]
  have x4: ¬(i<0\/3<=i)-> ¬(e=0\/e=1)->ofE e i p=CE 231 [97,110,32,101,110,103,105,110,101] 2:=fun hn he=>by simp only[ofE,if_neg hn,if_neg hpf,if_neg he]
  repeat'(first|exact prB|refine stC ?_|refine stU (fun h=>?_) fun h=>?_|refine stN (fun b hb=>?_)|refine stL ?_ (c:=cc)|fail)
  all_goals first
   |(refine Ai Y (A1y ?_);rw[w1 Aa,x1 Aa]<;>rfl)
   |(refine Ai Y (A1y ?_);rw[w2 Aa Aa,x2 Aa Aa]<;>rfl)
   |(refine Ai Y (A1y ?_);rw[w3 Aa Aa Aa,x2 Aa Aa]<;>rfl)
   |(refine Ai Y (A1y ?_);rw[w4 Aa Aa Aa,x4 Aa Aa]<;>rfl)
theorem Ct.freezeK {P:Program} {f:Nat} {xs:List AV} {σ σ2 s:St} {r r':AV} {e:Env} (l:St) (h:Ct P f xs σ r σ2) (hz:DQ l [r] [] σ2=([r'],e,s)):Ct P f xs σ r' s:=by
 refine⟨h.1,fun vs w g hrl hi=>(h.2 vs w g hrl hi).mono ?_⟩
 rintro ed w' ⟨v,g1,rfl,h1,h2,h3⟩
 obtain⟨g2,k1,k2,k3,_⟩:=CQ (w:=w') l (a:=⟨#[],[]⟩) hz h3 (vs:=[v]) (A1v h2 Bt.nil) (fun t x hx=>by simp[Am.look]at hx)
 exact⟨v,g2,Y,h1.trans k1,k3.2 0 v r' Y Y,k2⟩
def Ayz (b:Batch):Entry:={kind:=0,b:=b,yes:=false,next:=0,offset:=0,row:=⟨0,0,0,[],[]⟩,prod:=HJ}
def wrT (e i:Int):T:=if e=0 then .iface 237 (.agg (CM e i))else .iface 238 (.agg (CM e i))
def A0x (p:Part) (b:Batch):Option (Bs×Int):=match A0w p b with
 |some x=>some x
 |none=>if A1f p b>1048576 then some ([116,104,101,32,101,110,100],102)else none
def A1d:Option (Bs×Int)->T
 |some (s,n)=>CE 231 s n
 |none=>.nilIface
structure PR where
 part:Part
 base:Int
 w:List Wr
 err:Option (Bs×Int)
def Aax (e i:Int) (p:Part) (b:Batch):PR:=
 if Abx p.prods b≠0 then⟨CS,0,[],some ([97,32,115,101,113,117,101,110,99,101],Abx p.prods b)⟩
 else if Azb p.prods b=true then⟨p,Ate p.prods b,[],none⟩
 else match A0x p b with
  |some x=>⟨CS,0,[],some x⟩
  |none=>if b.txn=true then⟨Af7 p b,-1,Dp (Ar9 e i b) [Ayz b],none⟩else⟨Ro p b,p.fin,Dp (Ex e i) [Ayz b],none⟩
def PR.av (r:PR):AV:=.tuple [.agg (Ah (AD r.part)),.t (.int .i64 r.base),.t (.slice .any 4 (r.w.map AF)),.t (A1d r.err)]
theorem Adj:Sub (.agg (Ah Yw.zero)) (.agg (Ah (AD CS))):=by
 refine AA ?_
 exact⟨A1x _,A1x _,Ak,Ak,Ak,trivial⟩
theorem CtF.freezeK {P:Program} {f:Nat} {xs:List AV} {σ:St} {I:Type} {V:I->Prop} {r r':I->AV} {s s':I->St} {e:I->Env} (l:I->St) (h:CtF P f xs σ V r s) (hz: ∀i,DQ (l i) [r i] [] (s i)=([r' i],e i,s' i)):CtF P f xs σ V r' s':=by
 refine⟨h.1,fun vs w g hrl hi=>(h.2 vs w g hrl hi).mono ?_⟩
 rintro ed w' ⟨v,g1,i,rfl,hV,h1,h2,h3⟩
 obtain⟨g2,k1,k2,k3,_⟩:=CQ (w:=w') (l i) (a:=⟨#[],[]⟩) (hz i) h3 (vs:=[v]) (A1v h2 Bt.nil) (fun t x hx=>by simp[Am.look]at hx)
 exact⟨v,g2,i,Y,hV,h1.trans k1,k3.2 0 v (r' i) Y Y,k2⟩
structure PO where
 part:Part
 base:Int
 w:List Wr
 e:Int
def F4 (e q:Int) (p:Part):Bool:=decide (q<0\/3<=q)||(!Bb p||decide (e≠0/\e≠1))
def VB (e q:Int) (p:Part) (b:Batch):PO:=
 if F4 e q p=true\/A9 b=false then⟨CS,0,[],2⟩
 else match (Aax e q p b).err with
  |some x=>⟨CS,0,[],x.2⟩
  |none=>⟨(Aax e q p b).part,(Aax e q p b).base,(Aax e q p b).w,0⟩
def PO.av (r:PO):AV:=.tuple [.agg (Ah (AD r.part)),.t (.int .i64 r.base),.t (.slice .any 4 (r.w.map AF)),.t (.int .i64 r.e)]
theorem Asi {e q:Int} {p:Part} (h:F4 e q p=true):ofW e q p=.nilIface/\ ∃s,ofE e q p=CE 231 s 2:=by
 simp only[F4,Bool.or_eq_true,decide_eq_true_eq,Bool.not_eq_true']at h
 unfold ofW ofE
 by_cases h1:q<0\/3<=q
 ·exact⟨if_pos (.inl h1),_,if_pos h1⟩
 ·cases h2:Bb p with
  |false=>exact⟨if_pos (.inr Y),Px p,by rw[if_neg h1];simp[enT,h2]⟩
  |true=>
   have h3:e≠0/\e≠1:=by rcases h with h|h|h;exact absurd h h1;rw[h2]at h;cases h;exact h
   have h4: ¬((q<0\/3<=q)\/true=false):=by simp;omega
   exact⟨by rw[if_neg h4,if_neg h3.1,if_neg h3.2],[97,110,32,101,110,103,105,110,101],by rw[if_neg h1,if_neg Ac,if_neg Aa]⟩
theorem Aa2 {e q:Int} {p:Part} (h:F4 e q p=false):(ofW e q p=wrT e q/\ofE e q p=.nilIface)/\(e=0\/e=1)/\(q=0\/q=1\/q=2)/\Bb p=true:=by
 simp only[F4,Bool.or_eq_false_iff,decide_eq_false_iff_not,Bool.not_eq_false']at h
 obtain⟨h1,h2,h3⟩:=h
 have h4: ¬((q<0\/3<=q)\/Bb p=false):=by rw[h2];simp;omega
 have he:e=0\/e=1:=by omega
 refine⟨⟨?_,?_⟩,he,by omega,h2⟩
 ·unfold ofW wrT;rw[if_neg h4]
  rcases he with rfl|rfl
  ·rw[if_pos Y,if_pos Y]
  ·rw[if_neg Ae,if_pos Y,if_neg Ae]
 ·unfold ofE;rw[if_neg h1,if_neg (by rw[h2];simp),if_pos he]
end Go.Proofs.YtmohpcgmdheafaaGreatDoor
namespace Go.Proofs.YtmohpcgmdheafaaGreatDoor
open Go.Am
attribute [local irreducible] Decidable.decide
theorem Kl: ∀{l:List Prod} {n:Int},EI n l=true->n<=8->(l.length:Int)<=8-n
 |[],n,_,h=>by simp;omega
 |p::r,n,h,_=>by
  simp only[EI,Bool.and_eq_true,decide_eq_true_eq]at h
  have hb:=GA h.1.2
  unfold Cx at hb
  have:=Kl h.2 Aa
  simp only[List.length_cons];omega
theorem Kh {l:List Prod} (h:Ef l=true):KK l:=by
 have h1:=Kl h Aa
 refine⟨by omega,fun p hp=>?_⟩
 have hb:=GA ((Ep.1 h).2 p hp)
 unfold Cx at hb;omega
theorem Tw {p:Part} (h:POk p) (hr:p.rows.length<=1000000) (ho:p.opens.length<=1000000):AR p:=by
 refine⟨hr,ho,fun o hm=>?_,Kh h.may⟩
 have hc:=(h.ook o hm).1
 have hl:=BU hc
 refine⟨by omega,fun b hb=>?_⟩
 simp only[B6,Bool.and_eq_true]at hc
 have:=Co (Ls hc.2 b hb)
 omega
structure YI (b:Batch) (i:Nat) (p:Part):Prop where
 ok:POk p
 start:p.start=0
 fin:p.fin=i
 opens:p.opens=[]
 rows:p.rows=(b.recs.take i).mapIdx (Hc b 0)
 none:i=0->p.prods=[]
 has:0<i->FE p.prods b.pid=true/\(BM p.prods b.pid).epoch=b.epoch/\(BM p.prods b.pid).next=i/\ ∀s∈(BM p.prods b.pid).seen,s.seq<i
def Rt (p:Part) (b:Batch):Part:=if b.txn=true then Af7 p b else Ro p b
end Go.Proofs.YtmohpcgmdheafaaGreatDoor
namespace Go.Proofs.YtmohpcgmdheafaaGreatDoor
open Go.Am
attribute [local irreducible] Decidable.decide Tr A2 hSK hSW
theorem Acp (l:List Prod) (hl:l.length<=1000000) (hs: ∀b∈l,b.seen.length<=1000000):A17 109 [.t (.slice .any 4 (l.map Al)),.t (.slice .any 4 (l.map Al))] [] (.t (.bool true)) []:=by
 have hlm:(l.map Al).length=l.length:=List.length_map ..
 refine ct0 Ag Tryz.func109 Y false Y Y ?_
 repeat'(first|exact prB|refine stC ?_|refine stU (fun h=>?_) fun h=>?_|refine stN (fun b hb=>?_)|refine stD 6 8 ?_|fail)
 refine A3 (ι:=Nat) (fun i=>i<=l.length) (fun i=>[(0,.t (.slice .any 4 (l.map Al))),(1,.t (.slice .any 4 (l.map Al))),(5,.t (.int .i64 i))]) (fun _=>[]) (fun i=>l.length-i) 0 Ac ?_ ?_
 ·exact AE [] (Af Y Y (Af Y Y (Af Y Y Aj))) Y
 rintro i hi
 by_cases hlt:i<l.length
 ·have hr:l[i]?=some l[i]:=List.getElem?_eq_getElem hlt
  have hb:=hs l[i] (List.getElem_mem hlt)
  generalize l[i]=r at hr hb
  have cb:=Ja r r hb
  rw[decide_eq_true Y]at cb
  repeat'(first|exact prB|refine stC ?_|refine stU (fun h=>?_) fun h=>?_|refine stN (fun b hb=>?_)|refine stD 6 8 ?_|refine stL ?_ (c:=cb)|refine stM ?_ (c:=cb)|fail)
  refine Ay (i+1) hlt Aa [] (Af Y Y (Af Y Y (Af Y ?_ Aj))) Y
  rw[An Aa Aa];rfl
 ·repeat'(first|exact prB|refine stC ?_|refine stU (fun h=>?_) fun h=>?_|refine stN (fun b hb=>?_)|refine stD 6 8 ?_|fail)
  exact Ai Y (A1y Y)
theorem Al3 {α:Type} {f:α->Int} {x:α} {l:List α}:(RE f x l).length<=l.length+1:=by
 have h1: ∀{l:List α},(l.filter (fun y=>decide (f y<f x))).length+(l.filter (fun y=>decide (f x<f y))).length<=l.length:=by
  intro l
  induction l with
  |nil=>simp
  |cons a r ih=>
   simp only[List.filter_cons,List.length_cons]
   by_cases c1:f a<f x
   ·have c2: ¬f x<f a:=by omega
    simp only[c1,c2,decide_true,decide_false,if_true,Bool.false_eq_true,if_false,List.length_cons];omega
   ·by_cases c2:f x<f a
    ·simp only[c1,c2,decide_true,decide_false,if_true,Bool.false_eq_true,if_false,List.length_cons];omega
    ·simp only[c1,c2,decide_false,Bool.false_eq_true,if_false];omega
 have:= @h1 l
 simp only[RE,List.length_append,List.length_cons]
 omega
end Go.Proofs.YtmohpcgmdheafaaGreatDoor
