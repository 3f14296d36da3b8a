/- Contracts and laws, joined: Qi, Qj, Qk, Ql, Qm, Qn. No condition beside those that each theorem names. -/
import Derived.Test.YtpdmaenhenfofaaGreatDoorZM10
import Derived.Test.YtpdmaenhenfofaaGreatDoorZJ9
import Derived.Test.YtpdmaenhenfofaaGreatDoorZJ7
set_option linter.unusedVariables false
set_option linter.unusedSimpArgs false
namespace Go.Proofs.YtpdmaenhenfofaaGreatDoor
open Go.Am
attribute [local irreducible] Decidable.decide
set_option maxRecDepth 100000
set_option maxHeartbeats 1000000
def FA (b:Batch) (off:Int) (i:Nat) (r:Rec):Row:=⟨if off= -1 then-1 else off+i,b.pid,b.seq+i,r.key,r.value⟩
def BS (b:Batch) (off:Int):List Row:=b.recs.mapIdx (FA b off)
theorem QP {b:Batch} {off:Int} {i:Nat} {r:Rec} (h:b.recs[i]?=some r):(b.recs.take (i+1)).mapIdx (FA b off)=(b.recs.take i).mapIdx (FA b off)++[FA b off i r]:=by
 have hlt:=(List.getElem?_eq_some_iff.1 h).1
 rw[AL h,List.mapIdx_append];simp;congr 1;omega
theorem Tv (b:Batch) (off:Int) (hb:A1 b=true) (h1: -1≤off) (h2:off≤2000000000):Ct Tryz.prog 104 [.agg (Aj (Ap b)),.t (.int .i64 off)] [] (.t (.slice .any 5 ((BS b off).map AC))) []:=by
 have hm:=AU hb
 have hlm:(b.recs.map Bu).length=b.recs.length:=List.length_map ..
 have hcn:((b.recs.map Bu).length:Int)=((b.recs.length:Nat):Int):=by rw[hlm]
 refine ct0 Ac Tryz.func104 J false J J ?_
 repeat'(first|refine Ae Ac J J J ?_|refine Ag ?_|refine Ah ?_|refine Ai Ac J J ?_|refine Al ?_|refine NE Ac J J J J J J J (l:=0) J hcn J J O O ?_)
 refine AM (ι:=Nat) (fun i=>i≤b.recs.length) (fun i=>[(1,.t (.int .i64 off)),(2,.ref 4 0),(5,.row 24 5 0 (((b.recs.take i).mapIdx (FA b off)).map AC).length),(15,.t (.int .i64 ((b.recs.map Bu).length:Int))),(16,.t (.int .i64 i))]) (fun i=>[(24,.grow 5 (((b.recs.take i).mapIdx (FA b off)).map AC)),(4,.cells (Aj (Ap b)))]) (fun i=>b.recs.length-i) 0 Z ?_ ?_
 ·exact AR [] (Ad J J (Ad J J (Ad J J (Ad J J (Ad J J Aq))))) J
 rintro i hi
 by_cases hlt:i<b.recs.length
 ·have hr:b.recs[i]?=some b.recs[i]:=List.getElem?_eq_getElem hlt
  generalize b.recs[i]=r at hr
  have hw1:IntKind.i64.wrap (b.seq+i)=b.seq+i:=A0 O O
  have hw2:IntKind.i64.wrap (off+i)=off+i:=A0 O O
  repeat'(first|refine An Ac J J J J J ?_|refine Ae Ac J J J ?_|refine Ag ?_|refine Ah ?_|refine Ai Ac J J ?_|(refine Af J (ht:=fun h=>?_) (hf:=fun h=>?_)<;>try exact prn)|refine Al ?_|refine Ao ?_|refine AD Ac J J J J J J J (A2 Aa) J ?_|refine AN Ac J J J J J J J J J J J J J J (by simp[AW];omega) ?_)
  all_goals refine AF (i+1) hlt O [7,8] (Ad J J (Ad J J (Ad J ?_ (Ad J J (Ad J (by rw[A0 O O];rfl) Aq))))) ?_
  all_goals rw[QP hr,List.map_append,FA]
  all_goals try rw[hw1]
  all_goals try rw[hw2]
  all_goals first|rw[if_neg h]|rw[if_pos (Classical.not_not.1 h)]
  all_goals try rfl
  all_goals try(rw[Classical.not_not.1 h];rfl)
 ·repeat'(first|refine Ae Ac J J J ?_|refine Ag ?_|refine Ah ?_|refine Ai Ac J J ?_|(refine Af J (ht:=fun h=>?_) (hf:=fun h=>?_)<;>try exact prn)|refine AB ?_|refine Ar ?_)
  refine Au J (Sub.of_eq ?_)
  have ht:b.recs.take i=b.recs:=List.take_of_length_le O
  rw[ht]
  simp[BA,BS]
  try exact List.take_of_length_le Z
theorem HG (l:List Opn) (pid:Int) (hl:l.length≤1000000):Ct Tryz.prog 54 [.t (.slice .any 3 (l.map Aw)),.t (.int .i64 pid)] [] (.tuple [.t (.int .i64 (Em (fun o=>decide (o.pid=pid)) l)),.t (.bool (l.any (fun o=>decide (o.pid=pid))))]) []:=by
 have hf: ∀o:Opn,Ct Tryz.prog 103 (.agg (Aj (Aw o))::Aj [.ptr [.int .i64 pid]]) [] (.t (.bool (decide (o.pid=pid)))) []:=fun o=>by
  refine ct0 Ac Tryz.func103 J false J J ?_
  repeat'(first|refine Ae Ac J J J ?_|refine Ag ?_|refine Ah ?_|refine Ai Ac J J ?_|refine Ar ?_)
  exact Au J (Sub.refl _)
 have ci:=MY 103 [.ptr [.int .i64 pid]] (fun o=>decide (o.pid=pid)) l O hf J
 refine ct0 Ac Tryz.func54 J false J J ?_
 refine Ah ?_
 refine Ai Ac J J ?_
 repeat'(first|refine Ae Ac J J J ?_|refine Ag ?_)
 refine Tr.freezeBox (cs:=[.int .i64 pid]) 3 6 J J J J ?_
 repeat'(first|refine Ae Ac J J J ?_|refine Ag ?_|refine Ah ?_|refine Ai Ac J J ?_|refine Ar ?_|refine Ak Ac J J J J J J J (ci) J J ?_)
 refine Au J (Sub.of_eq ?_)
 have:=Ir (fun o:Opn=>decide (o.pid=pid)) l
 rw[Bool.eq_iff_iff.2 ⟨fun h=>this.1 (of_decide_eq_true h),fun h=>decide_eq_true (this.2 h)⟩]
end Go.Proofs.YtpdmaenhenfofaaGreatDoor
namespace Go.Proofs.YtpdmaenhenfofaaGreatDoor
open Go.Am
attribute [local irreducible] Decidable.decide
set_option maxRecDepth 100000
set_option maxHeartbeats 1000000
theorem UK {α:Type} {p:α→Bool} {l:List α} (h:l.any p=true): ∃(i:Nat) (x:α),l[i]?=some x∧Em p l=(i:Int)∧l.find? p=some x:=by
 obtain⟨i,x,hx,hi,hf,_⟩:=JK h
 refine⟨i,x,hx,?_,hf⟩
 unfold Nn at hi;unfold Em
 cases he:l.findIdx? p with
 |some j=>rw[he]at hi;exact hi
 |none=>rw[List.findIdx?_eq_none_iff]at he;rw[List.any_eq_true]at h;obtain⟨x,hx,hp⟩:=h;have:=he x hx;simp[hp]at this
def PH (l:List Batch):Nat:=(l.map (fun b=>b.recs.length)).sum
def PG (l:List Opn):Nat:=(l.map (fun o=>PH o.batches)).sum
theorem V9 {α:Type} {f:α→Nat} {c:Nat}: ∀{l:List α},(∀x∈l,f x≤c)→(l.map f).sum≤c*l.length
 |[],_=>by simp
 |x::r,h=>by
  have h1:=h x (List.mem_cons_self ..)
  have h2:=V9 (l:=r) fun y hy=>h y (List.mem_cons_of_mem _ hy)
  simp only[List.map_cons,List.sum_cons,List.length_cons,Nat.mul_add,Nat.mul_one];omega
theorem WV {o:Opn} (hs:HY o) (j:Nat):PH (o.batches.take j)≤1000000000000:=by
 have h1:=V9 (f:=fun b:Batch=>b.recs.length) (c:=1000000) (l:=o.batches.take j) fun b hb=>hs.2 b (List.mem_of_mem_take hb)
 have h2:(o.batches.take j).length≤o.batches.length:=by rw[List.length_take];omega
 have h3:=hs.1
 unfold PH;omega
theorem Ac7 {l:List Opn} (hl:l.length≤1000000) (hs: ∀o∈l,HY o) (j:Nat):PG (l.take j)≤1000000000000000000:=by
 have h1:=V9 (f:=fun o:Opn=>PH o.batches) (c:=1000000000000) (l:=l.take j) fun o ho=>by
  have:=WV (hs o (List.mem_of_mem_take ho)) o.batches.length
  rwa[List.take_length]at this
 have h2:(l.take j).length≤l.length:=by rw[List.length_take];omega
 unfold PG;omega
theorem XK {l:List Batch} {i:Nat} {b:Batch} (h:l[i]?=some b):PH (l.take (i+1))=PH (l.take i)+b.recs.length:=by
 rw[AL h];simp[PH]
theorem XJ {l:List Opn} {i:Nat} {o:Opn} (h:l[i]?=some o):PG (l.take (i+1))=PG (l.take i)+PH o.batches:=by
 rw[AL h];simp[PG]
def Abs (p:Part) (b:Batch):Int:=p.fin+b.recs.length+8+PG p.opens
def GO (p:Part) (b:Batch):Option (Bs×Int):=match p.opens.find? (fun o=>decide (o.pid=b.pid))with
 |none=>none
 |some o=>if b.txn=false then some ([97,32,98,97,116,99,104,32,98,101,115,105,100,101,32,97,32,116,114,97,110,115,97,99,116,105,111,110],180)else if o.epoch≠b.epoch then some ([116,104,101,32,101,112,111,99,104,32,111,102,32,97,32,116,114,97,110,115,97,99,116,105,111,110],100)else if 8≤o.batches.length then some ([116,104,101,32,98,97,116,99,104,101,115,32,111,102,32,97,32,116,114,97,110,115,97,99,116,105,111,110],140)else none
def FW (p:Part) (b:Batch):T:=match GO p b with
 |some (s,n)=>Cv 97 s n
 |none=>if Abs p b>1048576 then Cv 97 [116,104,101,32,101,110,100] 102 else .nilIface
theorem Ib (p:Part) (b:Batch) (hs:Bt p) (hf: -1000000000≤p.fin∧p.fin≤1000000000) (hb:b.recs.length≤1000000):Ct Tryz.prog 71 [.agg (Aj (A5 p)),.agg (Aj (Ap b))] [] (.t (FW p b)) []:=by
 obtain⟨hs1,hs2,hs3,hs4⟩:=hs
 have hlo:(p.opens.map Aw).length=p.opens.length:=List.length_map ..
 have hlr:(b.recs.map Bu).length=b.recs.length:=List.length_map ..
 have ci:=HG p.opens b.pid hs2
 refine ct0 Ac Tryz.func71 J false J J ?_
 have hcs:(p.opens.any (fun o=>decide (o.pid=b.pid))=false∧p.opens.find? (fun o=>decide (o.pid=b.pid))=none)∨ ∃(i:Nat) (o:Opn),p.opens.any (fun o=>decide (o.pid=b.pid))=true∧p.opens[i]?=some o∧Em (fun o=>decide (o.pid=b.pid)) p.opens=(i:Int)∧p.opens.find? (fun o=>decide (o.pid=b.pid))=some o:=by
  cases hh:p.opens.any (fun o=>decide (o.pid=b.pid))with
  |false=>exact .inl ⟨J,by rw[List.find?_eq_none];intro x hx;simpa using List.any_eq_false.1 hh x hx⟩
  |true=>obtain⟨i,x,h1,h2,h3⟩:=UK hh;exact .inr ⟨i,x,J,h1,h2,h3⟩
 have hw0:IntKind.i64.wrap (IntKind.i64.wrap (p.fin+((b.recs.map Bu).length:Int))+8)=p.fin+b.recs.length+8:=by
  rw[hlr,A0 (n:=p.fin+b.recs.length) O O,A0 O O]
 generalize Em (fun o:Opn=>decide (o.pid=b.pid)) p.opens=k at ci hcs
 have hlE:Abs p b=p.fin+b.recs.length+8+(PG (p.opens.take p.opens.length):Int):=by rw[List.take_length];rfl
 repeat'(first|refine Aho (ι:=Unit) (a:=.seq _ (.seq _ (.cond (.tmp 21) _ _))) (fun _=>GO p b=none) (fun _=>[(2,.ref 4 0),(3,.ref 6 0)]) (fun _=>[(6,.cells (Aj (Ap b))),(4,.cells (Aj (A5 p)))]) ?_ ?_|refine Ae Ac J J J ?_|refine Ag ?_|refine Ah ?_|refine Ai Ac J J ?_|(refine Af J (ht:=fun h=>?_) (hf:=fun h=>?_)<;>try exact prn)|refine Ao ?_|refine Ak Ac J J J J J J J (ci) J J ?_)
 ·rcases hcs with⟨h1,_⟩|⟨i,o,_,hx,rfl,hfd⟩
  ·exfalso;simp_all
  have hlb:(o.batches.map Ap).length=o.batches.length:=List.length_map ..
  repeat'(first|refine An Ac J J J J J ?_|refine Ae Ac J J J ?_|refine Ag ?_|refine Ah ?_|refine Ai Ac J J ?_|(refine Af J (ht:=fun h=>?_) (hf:=fun h=>?_)<;>try exact prn)|refine Al ?_|refine Ao ?_|refine Ar ?_|refine AD Ac J J J J J J J (A2 Aa) J ?_)
  ·refine Au J (Sub.of_eq ?_);have:b.txn=false:=by simp_all
   simp[FW,GO,hfd,this];rfl
  ·refine Au J (Sub.of_eq ?_);simp_all[FW,GO];rfl
  ·refine Au J (Sub.of_eq ?_);have h8:8≤o.batches.length:=by omega
   simp_all[FW,GO];rfl
  ·refine⟨(),?_,AR [7] (Ad J J (Ad J J Aq)) J⟩
   have h8: ¬8≤o.batches.length:=by omega
   simp_all[GO]
 ·refine⟨(),?_,AR [] (Ad J J (Ad J J Aq)) J⟩
  rcases hcs with⟨_,h1⟩|⟨i,o,h1,_⟩
  ·simp[GO,h1]
  ·exfalso;simp_all
 ·rintro _ hno
  repeat'(first|refine Ae Ac J J J ?_|refine Ag ?_|refine Ah ?_|refine Ai Ac J J ?_|refine Al ?_)
  refine AM (ι:=Nat) (fun i=>i≤p.opens.length) (fun i=>[(8,.t (.int .i64 (p.fin+b.recs.length+8+(PG (p.opens.take i):Int)))),(59,.t (.slice .any 3 (p.opens.map Aw))),(60,.t (.int .i64 p.opens.length)),(61,.t (.int .i64 i))]) (fun _=>[]) (fun i=>p.opens.length-i) 0 Z ?_ ?_
  ·exact AR [2,3] (Ad J (by rw[hw0];simp[PG];rfl) (Ad J J (Ad J (by rw[hlo];rfl) (Ad J J Aq)))) J
  rintro i hi
  have hsi:=Ac7 hs2 hs3 i
  by_cases hlt:i<p.opens.length
  ·have hr:p.opens[i]?=some p.opens[i]:=List.getElem?_eq_getElem hlt
   have hso:=hs3 p.opens[i] (List.getElem_mem hlt)
   generalize p.opens[i]=o at hr hso
   have hsb:=hso.1
   have hlb:(o.batches.map Ap).length=o.batches.length:=List.length_map ..
   repeat'(first|refine An Ac J J J J J ?_|refine Ae Ac J J J ?_|refine Ag ?_|refine Ah ?_|refine Ai Ac J J ?_|(refine Af J (ht:=fun h=>?_) (hf:=fun h=>?_)<;>try exact prn)|refine Al ?_|refine Ao ?_|refine AD Ac J J J J J J J (A2 Aa) J ?_)
   refine AM (ι:=Nat) (fun j=>j≤o.batches.length) (fun j=>[(8,.t (.int .i64 (p.fin+b.recs.length+8+(PG (p.opens.take i):Int)+(PH (o.batches.take j):Int)))),(59,.t (.slice .any 3 (p.opens.map Aw))),(60,.t (.int .i64 p.opens.length)),(61,.t (.int .i64 i)),(66,.t (.slice .any 5 (o.batches.map Ap))),(67,.t (.int .i64 o.batches.length)),(68,.t (.int .i64 j))]) (fun _=>[]) (fun j=>o.batches.length-j) 0 Z ?_ ?_
   ·exact AR [10] (Ad J (by simp[PH];rfl) (Ad J J (Ad J J (Ad J J (Ad J J (Ad J (by rw[hlb];rfl) (Ad J J Aq))))))) J
   rintro j hj
   have hsj:=WV hso j
   by_cases hlj:j<o.batches.length
   ·have hrj:o.batches[j]?=some o.batches[j]:=List.getElem?_eq_getElem hlj
    have hbj:=hso.2 o.batches[j] (List.getElem_mem hlj)
    generalize o.batches[j]=c at hrj hbj
    have hlc:(c.recs.map Bu).length=c.recs.length:=List.length_map ..
    repeat'(first|refine An Ac J J J J J ?_|refine Ae Ac J J J ?_|refine Ag ?_|refine Ah ?_|refine Ai Ac J J ?_|(refine Af J (ht:=fun h=>?_) (hf:=fun h=>?_)<;>try exact prn)|refine Al ?_|refine Ao ?_|refine AD Ac J J J J J J J (A2 Aa) J ?_)
    refine AF (j+1) hlj O [12] (Ad J ?_ (Ad J J (Ad J J (Ad J J (Ad J J (Ad J J (Ad J (by rw[A0 O O];rfl) Aq))))))) J
    rw[XK hrj,hlc,A0 O O,Int.natCast_add,←Int.add_assoc]
    try rfl
   ·repeat'(first|refine Ae Ac J J J ?_|refine Ag ?_|refine Ah ?_|refine Ai Ac J J ?_|(refine Af J (ht:=fun h=>?_) (hf:=fun h=>?_)<;>try exact prn)|refine AB ?_)
    have hje:o.batches.take j=o.batches:=List.take_of_length_le O
    refine AF (i+1) hlt O [] (Ad J ?_ (Ad J J (Ad J J (Ad J (by rw[A0 O O];rfl) Aq)))) J
    rw[hje,XJ hr,Int.natCast_add,←Int.add_assoc]
    try rfl
  ·have hie:i=p.opens.length:=by omega
   subst hie
   repeat'(first|refine Ae Ac J J J ?_|refine Ag ?_|refine Ah ?_|refine Ai Ac J J ?_|(refine Af J (ht:=fun h=>?_) (hf:=fun h=>?_)<;>try exact prn)|refine Ao ?_|refine AB ?_|refine Ar ?_)
   ·refine Au J (Sub.of_eq ?_);rw[←hlE]at*;simp[FW,hno, *];rfl
   ·refine Au J (Sub.of_eq ?_);rw[←hlE]at*;simp[FW,hno, *]
end Go.Proofs.YtpdmaenhenfofaaGreatDoor
namespace Go.Proofs.YtpdmaenhenfofaaGreatDoor
open Go.Am
attribute [local irreducible] Decidable.decide
set_option maxRecDepth 100000
set_option maxHeartbeats 1000000
def Xj (s f:Int) (rs:List Row) (os:List Opn) (ps:List Prod):St:=[(3,.grow 5 (rs.map AC)),(1,.cells [.t (.int .i64 s),.t (.int .i64 f),.row 3 5 0 (rs.map AC).length,.t (.slice .any 3 (os.map Aw)),.t (.slice .any 4 (ps.map Av))])]
theorem Abo (s f:Int) (rs:List Row) (os:List Opn) (ps:List Prod) (b:Batch) (hb:A1 b=true) (h1:0≤f) (h2:f≤1000000000) (h3:rs.length≤1000000):
  Ct Tryz.prog 55 [.ref 1 0,.agg (Aj (Ap b))] (Xj s f rs os ps) (.tuple []) (Xj s (f+b.recs.length) (rs++BS b f) os ps):=by
 have hm:=AU hb
 have hlm:(b.recs.map Bu).length=b.recs.length:=List.length_map ..
 have hlr:(BS b f).length=b.recs.length:=by simp[BS]
 have hlr2:((BS b f).map AC).length=b.recs.length:=by simp[BS]
 have hlr3:(rs.map AC).length=rs.length:=List.length_map ..
 have cr:=Tv b f hb O O
 refine ct1 Ac Tryz.func55 J J ?_
 repeat'(first|refine Zr (id:=1) Ac [0] 11 Y J J J J J J (by rintro ch e s ⟨hx,_⟩;rcases hx with hx|hx<;>cases hx) ?_|refine An Ac J J J J J ?_|refine Ae Ac J J J ?_|refine Ag ?_|refine Ah ?_|refine Ai Ac J J ?_|refine AN Ac J J J J J J J J J J J J J J (by simp[AW];omega) ?_|refine A9 (id:=2) (m:=7) Ac Y J J J J ?_|refine AA J J J J ?_|refine AO J J J J J (cr) J J ?_)
 refine DM [3] J J ?_ (Sub.refl _)
 have hw:IntKind.i64.wrap (f+((b.recs.map Bu).length:Int))=f+b.recs.length:=by rw[hlm,A0 O O]
 rw[hw]
 simp only[Xj,List.map_append];rfl
end Go.Proofs.YtpdmaenhenfofaaGreatDoor
namespace Go.Proofs.YtpdmaenhenfofaaGreatDoor
open Go.Am
attribute [local irreducible] Decidable.decide
set_option maxRecDepth 100000
set_option maxHeartbeats 1000000
theorem Tr.subCell {P:Program} {n:Nat} {env:Env} {σ:St} {K:Exit→Env→St→Prop} {code:Code} (b off:Nat) {cs:List AV} {x y:AV} (hb:Am.look σ b=some (.cells cs)) (hc:cs[off]?=some x) (hs:Sub x y)
  (h:Tr P n code env (upd σ b (.cells (cs.set off y))) K):Tr P n code env σ K:=by
 intro F hF hrf w g a hg
 have hi:=hg.inv
 obtain⟨blk,vs,e,q1,q2,q3,q4,q5⟩:=hi.ok b _ hb
 have hi1:Inv w g (upd σ b (.cells (cs.set off y))):=by
  refine⟨fun c C hC=>?_,fun c=>?_,hi.inj,hi.lt,fun c hc'=>⟨(hi.bx c hc').1,?_⟩,hi.dis,hi.im,hi.lo,hi.sx.upd b (fun L h=>by cases h)⟩
  ·rw[AG]at hC
   split at hC
   ·rename_i e1;subst e1;cases hC
    refine⟨blk,vs,e,q1,q2,q3,by simp[q4],fun i v x' hv hx=>?_⟩
    rw[List.getElem?_set]at hx
    split at hx
    ·rename_i e2
     split at hx
     ·cases hx
      rw[←e2]at hv
      exact hs _ _ _ (q5 off v _ hv hc)
     ·cases hx
    ·exact q5 i v x' hv hx
   ·exact hi.ok c C hC
  ·rw[AG]
   by_cases e1:b=c
   ·subst e1;simp[q1]
   ·simp only[if_neg e1];exact hi.dom c
  ·rw[AG]
   split
   ·exact⟨_,J⟩
   ·exact(hi.bx c hc').2
 exact h F hF hrf w g a ⟨hg.env,hi1,hg.defers,hg.size⟩
section
variable {P:Program} {c:Conf} {n:Nat} {ops:Array Oper} {rest:List Oper} {env:Env} {σ:St} {o:Oper} {k:Env→St→Prop} {news:List Nat}
end
theorem XI {α:Type} (es:List α):(es.drop 0).take (es.length-0)=es:=by simp
def EV (l:List Prod) (b:Batch):List Seen:=if(AX l b.pid).epoch≠b.epoch then[]else(AX l b.pid).seen
def II (s:List Seen):List Seen:=s.drop (s.length-3)
theorem Abv {α:Type} {es es':List α} (m:Nat) (h:es.drop m=es'):(es.drop m).take (es.length-m)=es':=by
 rw[←h];exact List.take_of_length_le Z
theorem Acw (s:List Seen) (es:List (List T)) (h:es=s.map Bv):es.drop (es.length-3)=(II s).map Bv:=by
 subst h;simp[II,List.map_drop]
def Bx (l:List Prod) (b:Batch) (base:Int):Prod:=⟨b.pid,b.epoch,Bo b,II (EV l b++[⟨b.seq,b.recs.length,base⟩])⟩
def FU (l:List Prod) (b:Batch) (base:Int):Int:=if base< -1∨base>1048576 then 2 else if B4 l b≠0 then B4 l b else if Cl l b=true then 101 else 0
def EM (l:List Prod) (b:Batch) (base:Int):List Prod:=if FU l b base=0 then Dt l (Bx l b base)else[]
theorem UL {l:List Prod} (hl:EN l) (pid:Int):(AX l pid).seen.length≤1000000:=by
 unfold AX
 cases h:l.find? (fun p=>decide (p.pid=pid))with
 |none=>simp[CZ]
 |some q=>exact hl.2 q (List.mem_of_find?_eq_some h)
theorem RU (l:List Prod) (b:Batch) (base:Int) (hl:EN l) (hb:b.recs.length≤1000000):
  Ct Tryz.prog 74 [.t (.slice .any 4 (l.map Av)),.agg (Aj (Ap b)),.t (.int .i64 base)] [] (.tuple [.t (.slice .any 4 ((EM l b base).map Av)),.t (.int .i64 (FU l b base))]) []:=by
 have ck:=Hr l b hl O
 have cf:=OL l b.pid hl
 have hks:(AX l b.pid).seen.length≤1000000:=UL hl b.pid
 have hwin: ∀es:List (List T),es.length≤2000000→Aar 0 (IntKind.i64.wrap ((es.length:Int)-3))=((es.length-3:Nat):Int):=fun es h=>by
  rw[A0 O O];unfold Aar;split<;>omega
 have htk:(Bx l b base).seen.length≤1000000:=by simp[Bx,II];omega
 have cs:=Ahy l (Bx l b base) hl htk
 have hmay:B4 l b=0→A1 b=true:=fun h=>by
  unfold B4 at h
  split at h
  ·rename_i h1;simp only[MH,Bool.and_eq_true]at h1;exact h1.2
  ·cases h
 have hk1:(AX l b.pid).epoch≠b.epoch→EV l b=[]:=fun h=>by simp[EV,h]
 have hk2:(AX l b.pid).epoch=b.epoch→EV l b=(AX l b.pid).seen:=fun h=>by simp[EV,h]
 have bad: ∀e,e≠0→FU l b base=e→Sub (.tuple [.t (.slice .nil 0 []),.t (.int .i64 e)]) (.tuple [.t (.slice .any 4 ((EM l b base).map Av)),.t (.int .i64 (FU l b base))]):=fun e h1 h2=>by
  subst h2
  rw[show EM l b base=[]by simp[EM,h1]]
  exact AK ⟨A6,Sub.refl _,trivial⟩
 have good:FU l b base=0→Sub (.tuple [.t (.slice .any 4 ((Dt l (Bx l b base)).map Av)),.t (.int .i64 0)]) (.tuple [.t (.slice .any 4 ((EM l b base).map Av)),.t (.int .i64 (FU l b base))]):=fun h=>by
  simp only[EM,h,if_true];exact Sub.refl _
 have e1:base< -1∨base>1048576→FU l b base=2:=fun h=>by simp[FU,h]
 have e2: ¬(base< -1∨base>1048576)→B4 l b≠0→FU l b base=B4 l b:=fun h h'=>by simp only[FU,if_neg h,if_pos h']
 have e3: ¬(base< -1∨base>1048576)→B4 l b=0→Cl l b=true→FU l b base=101:=fun h h' h2=>by simp only[FU,if_neg h,h2,if_true];simp[h']
 have e4: ¬(base< -1∨base>1048576)→B4 l b=0→ ¬Cl l b=true→FU l b base=0:=fun h h' h2=>by simp only[FU,if_neg h,if_neg h2];simp[h']
 refine ct0 Ac Tryz.func74 J false J J ?_
 repeat'(first|refine Tr.subCell 22 3 (x:=.t (.slice .nil 0 [])) (y:=.t (.slice .any 3 [])) J J A6 ?_|refine An Ac J J J J J ?_|refine Ae Ac J J J ?_|refine Ag ?_|refine Ah ?_|refine Ai Ac J J ?_|(refine AP J J J J J (ht:=fun h=>?_) (hf:=fun h=>?_)<;>try exact prn)|(refine Af J (ht:=fun h=>?_) (hf:=fun h=>?_)<;>try exact prn)|refine Ao ?_|refine Ar ?_|refine A9 (id:=12) (m:=13) Ac Y J J J J ?_|refine A9 (id:=14) (m:=13) Ac Y J J J J ?_|refine AA J J J J ?_|refine CY ?_|refine Ak Ac J J J J J J J (ck) J J ?_|refine Ak Ac J J J J J J J (cf) J J ?_|refine Xd (l:=0) J J J J J J (Do J J) FM (Nat.le_refl _) (Nat.zero_le _) (.inr ⟨J,J,Do J J,J⟩) (XI _) J ?_|refine X9 Ac J J J J J J J J J J J J (by simp[AW];omega) ?_|refine AO J J J J J (G5 b (hmay O)) J J ?_|refine Xd (es':=(II (EV l b++[⟨b.seq,b.recs.length,base⟩])).map Bv) J J J J J J (Do J J) (Do J (hwin _ (by simp[AW]<;>omega))) (Nat.le_refl _) (Nat.sub_le _ _) (.inr ⟨J,J,Do J J,J⟩) (Abv _ (Acw _ _ (by first|(rw[hk1 Aa];simp[AW,Bv]<;>rfl)|(rw[hk2 O];simp[AW,Bv]<;>rfl)))) J ?_|refine Ck Ac J J J J (cs) J J J ⟨Sub.refl _,(by refine B7 ?_;exact⟨Sub.refl _,Sub.refl _,Sub.refl _,Bp,trivial⟩),trivial⟩ ?_)
 all_goals first
  |exact Au J (bad _ Ab (e1 O))
  |exact Au J (bad _ Aa (e2 O Aa))
  |exact Au J (bad _ Ab (e3 O O Aa))
  |exact Au J (good (e4 O O Aa))
end Go.Proofs.YtpdmaenhenfofaaGreatDoor
namespace Go.Proofs.YtpdmaenhenfofaaGreatDoor
open Go.Am
attribute [local irreducible] Decidable.decide
set_option maxRecDepth 100000
set_option maxHeartbeats 1000000
theorem ctT {P:Program} {c:Conf} (hp:ProgOk P c) (d:Nat) {f:Nat} {xs:List AV} {x:T} (h:(J0 P c d f xs []).map (·.1)=some (.t x)):Ct P f xs [] (.t x) []:=by
 cases hc:J0 P c d f xs []with
 |none=>rw[hc]at h;cases h
 |some q=>
  obtain⟨r,σ2⟩:=q
  rw[hc]at h
  simp at h
  subst h
  obtain⟨e,s,hz⟩:=Iw (r:=.t x) (fun _=>rfl) σ2 [] σ2
  exact Ct.freeze (ctV hp d hc) hz J
def DH (e i:Int):Bs:=[if e=0 then 105 else 98,UInt8.ofNat (48+i.toNat)]
def MQ (i p:Int):Bs:=[98,UInt8.ofNat (48+i.toNat),46,UInt8.ofNat (48+p.toNat)]
theorem Ah8 (e i:Int) (he:e=0∨e=1) (hi:i=0∨i=1∨i=2):Ct Tryz.prog 246 [.t (.int .i8 e),.t (.int .i64 i)] [] (.t (.str (DH e i))) []:=by
 rcases he with rfl|rfl<;>rcases hi with rfl|rfl|rfl<;>exact ctT Sf 60 Y
theorem Xc (i p:Int) (hi:i=0∨i=1∨i=2) (hp:p=1∨p=2∨p=3∨p=4∨p=5∨p=6∨p=7∨p=8):Ct Tryz.prog 270 [.t (.int .i64 i),.t (.int .i64 p)] [] (.t (.str (MQ i p))) []:=by
 rcases hi with rfl|rfl|rfl<;>rcases hp with rfl|rfl|rfl|rfl|rfl|rfl|rfl|rfl<;>exact ctT Sf 60 Y
end Go.Proofs.YtpdmaenhenfofaaGreatDoor
namespace Go.Proofs.YtpdmaenhenfofaaGreatDoor
open Go.Am
attribute [local irreducible] Decidable.decide
set_option maxRecDepth 100000
set_option maxHeartbeats 1000000
def BK (e i:Int):List T:=[.int .i8 e,.int .i64 i]
theorem G2 (e i:Int) (he:e=0∨e=1) (hi:i=0∨i=1∨i=2):Ct Tryz.prog 245 [.agg (Aj (BK e i))] [] (.t (.str (DH e i))) []:=by
 refine ct0 Ac Tryz.func245 J false J J ?_
 repeat'(first|refine Ae Ac J J J ?_|refine Ag ?_|refine Ah ?_|refine Ai Ac J J ?_|refine Ar ?_|refine Ak Ac J J J J J J J (Ah8 e i he hi) J J ?_)
 exact Au J (Sub.refl _)
theorem Mu (e i:Int) (b:Batch) (he:e=0∨e=1) (hi:i=0∨i=1∨i=2):Ct Tryz.prog 264 [.t (.agg (BK e i)),.agg (Aj (Ap b))] [] (.t (.str (DH e i))) []:=by
 refine ct0 Ac Tryz.func264 J false J J ?_
 repeat'(first|refine Ae Ac J J J ?_|refine Ag ?_|refine Ah ?_|refine Ai Ac J J ?_|refine Ar ?_|refine Ak Ac J J J J J J J (G2 e i he hi) J J ?_)
 exact Au J (Sub.refl _)
def Dv (e i:Int) (b:Batch):Bs:=if e=1∧b.txn=true then MQ i b.pid else DH e i
theorem Mv (i:Int) (b:Batch) (hi:i=0∨i=1∨i=2) (hp:A1 b=true):Ct Tryz.prog 268 [.t (.agg (BK 1 i)),.agg (Aj (Ap b))] [] (.t (.str (Dv 1 i b))) []:=by
 have hpid:b.pid=1∨b.pid=2∨b.pid=3∨b.pid=4∨b.pid=5∨b.pid=6∨b.pid=7∨b.pid=8:=by
  simp only[A1,Bool.and_eq_true,decide_eq_true_eq]at hp;have hp1:=hp.1;unfold Cm at hp1;omega
 refine ct0 Ac Tryz.func268 J false J J ?_
 repeat'(first|refine Ae Ac J J J ?_|refine Ag ?_|refine Ah ?_|refine Ai Ac J J ?_|(refine Af J (ht:=fun h=>?_) (hf:=fun h=>?_)<;>try exact prn)|refine Ao ?_|refine Ar ?_|refine Ak Ac J J J J J J J (G2 1 i (.inr J) hi) J J ?_|refine Ak Ac J J J J J J J (Xc i b.pid hi hpid) J J ?_)
 all_goals(refine Au J (Sub.of_eq ?_);simp_all[Dv])
def ofW (e i:Int) (p:Part):T:=if(i<0∨3≤i)∨Er p=false then .nilIface else if e=0 then .iface 152 (.agg (BK e i))else if e=1 then .iface 153 (.agg (BK e i))else .nilIface
def ofE (e i:Int) (p:Part):T:=if i<0∨3≤i then Cv 97 [97,32,112,97,114,116,105,116,105,111,110] 2 else if Er p=false then enT p else if e=0∨e=1 then .nilIface else Cv 97 [97,110,32,101,110,103,105,110,101] 2
theorem Xn (e i:Int) (p:Part) (hs:Bt p):Ct Tryz.prog 36 [.t (.int .i8 e),.t (.int .i64 i),.agg (Aj (A5 p))] [] (.tuple [.t (ofW e i p),.t (ofE e i p)]) []:=by
 have cc:=R3 p hs
 refine ct0 Ac Tryz.func36 J false J J ?_
 cases hpk:Er p with
 |false=>
  have he:enT p=Cv 97 (Px p) 2:=by simp[enT,hpk]
  have hw:ofW e i p=.nilIface:=by simp[ofW,hpk]
  have h2: ¬(i<0∨3≤i)→ofE e i p=Cv 97 (Px p) 2:=fun hn=>by simp only[ofE,if_neg hn,hpk,if_true,he]
  have h1:(i<0∨3≤i)→ofE e i p=Cv 97 [97,32,112,97,114,116,105,116,105,111,110] 2:=fun hn=>by simp only[ofE,if_pos hn]
  rw[he]at cc
  repeat'(first|refine Ae Ac J J J ?_|refine Ag ?_|refine Ah ?_|refine Ai Ac J J ?_|(refine AP J J J J J (ht:=fun h=>?_) (hf:=fun h=>?_)<;>try exact prn)|(refine Af J (ht:=fun h=>?_) (hf:=fun h=>?_)<;>try exact prn)|refine Ao ?_|refine Ar ?_|refine Ak Ac J J J J J J J (cc) J J ?_)
  all_goals first
   |(refine Au J (Sub.of_eq ?_);rw[hw,h1 O]<;>rfl)
   |(refine Au J (Sub.of_eq ?_);rw[hw,h2 O]<;>rfl)
 |true=>
  have he:enT p=.nilIface:=by simp[enT,hpk]
  rw[he]at cc
  have w1:(i<0∨3≤i)→ofW e i p=.nilIface:=fun hn=>by simp only[ofW,if_pos (Or.inl hn:(i<0∨3≤i)∨Er p=false)]
  have x1:(i<0∨3≤i)→ofE e i p=Cv 97 [97,32,112,97,114,116,105,116,105,111,110] 2:=fun hn=>by simp only[ofE,if_pos hn]
  have n1: ¬(i<0∨3≤i)→ ¬((i<0∨3≤i)∨Er p=false):=fun hn hh=>hh.elim hn (fun h'=>by rw[hpk]at h';cases h')
  have w2: ¬(i<0∨3≤i)→e=0→ofW e i p=.iface 152 (.agg (BK e i)):=fun hn he=>by simp only[ofW,if_neg (n1 hn),if_pos he]
  have w3: ¬(i<0∨3≤i)→e≠0→e=1→ofW e i p=.iface 153 (.agg (BK e i)):=fun hn h0 he=>by simp only[ofW,if_neg (n1 hn),if_neg h0,if_pos he]
  have w4: ¬(i<0∨3≤i)→e≠0→e≠1→ofW e i p=.nilIface:=fun hn h0 he=>by simp only[ofW,if_neg (n1 hn),if_neg h0,if_neg he]
  have hpf: ¬Er p=false:=by rw[hpk];simp
  have x2: ¬(i<0∨3≤i)→(e=0∨e=1)→ofE e i p=.nilIface:=fun hn he=>by simp only[ofE,if_neg hn,if_neg hpf,if_pos he]
  have x4: ¬(i<0∨3≤i)→ ¬(e=0∨e=1)→ofE e i p=Cv 97 [97,110,32,101,110,103,105,110,101] 2:=fun hn he=>by simp only[ofE,if_neg hn,if_neg hpf,if_neg he]
  repeat'(first|refine Ae Ac J J J ?_|refine Ag ?_|refine Ah ?_|refine Ai Ac J J ?_|(refine AP J J J J J (ht:=fun h=>?_) (hf:=fun h=>?_)<;>try exact prn)|(refine Af J (ht:=fun h=>?_) (hf:=fun h=>?_)<;>try exact prn)|refine Al ?_|refine Ao ?_|refine Ar ?_|refine Ak Ac J J J J J J J (cc) J J ?_)
  all_goals first
   |(refine Au J (Sub.of_eq ?_);rw[w1 O,x1 O]<;>rfl)
   |(refine Au J (Sub.of_eq ?_);rw[w2 O O,x2 O O]<;>rfl)
   |(refine Au J (Sub.of_eq ?_);rw[w3 O O O,x2 O O]<;>rfl)
   |(refine Au J (Sub.of_eq ?_);rw[w4 O O O,x4 O O]<;>rfl)
end Go.Proofs.YtpdmaenhenfofaaGreatDoor
