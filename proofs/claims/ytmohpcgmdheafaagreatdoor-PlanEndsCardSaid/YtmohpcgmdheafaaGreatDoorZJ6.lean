/- Contracts and laws, joined: Pr, Ps, Dm, Cg. No condition beside those that each theorem names. -/
import Derived.Test.YtmohpcgmdheafaaGreatDoorZJ5
import Derived.Test.YtmohpcgmdheafaaGreatDoorZDl
set_option linter.unusedVariables false
set_option linter.unusedSimpArgs false
set_option maxRecDepth 100000
set_option maxHeartbeats 8000000
namespace Go.Proofs.YtmohpcgmdheafaaGreatDoor
open Go.Am
attribute [local irreducible] Decidable.decide Tr A2 hSK hSW
def DK (b:Batch):Int:=b.seq+b.recs.length
def C2 (pid epoch:Int):Int->List Batch->Bool
 |_,[]=>true
 |next,b::r=>A9 b&&b.txn&&decide (b.pid=pid)&&decide (b.epoch=epoch)&&decide (b.seq=next)&&C2 pid epoch (DK b) r
def IA:List Batch->Int
 |[]=>0
 |b::_=>b.seq
def Hj:List Batch->Int
 |[]=>0
 |[b]=>DK b
 |_::r=>Hj r
def B6 (o:Opn):Bool:=decide (1<=o.batches.length/\o.batches.length<=8)&&C2 o.pid o.epoch (IA o.batches) o.batches
def Da (o:Opn) (i:Nat) (b:Batch):Entry:=if i+1=o.batches.length then⟨3,b,true,Hj o.batches,0,Lw,Gy⟩else⟨3,b,false,0,0,Lw,Gy⟩
def B7 (o:Opn):List Entry:=o.batches.mapIdx (Da o)
theorem Co {b:Batch} (h:A9 b=true):0<=b.seq/\b.seq+b.recs.length<=1048576/\1<=b.recs.length/\b.recs.length<=4:=by
 simp only[A9,Bool.and_eq_true,decide_eq_true_eq]at h
 have h:=h.1
 unfold CN at h;omega
theorem Hf (b:Batch) (hb:A9 b=true):A17 202 [.agg (Ah (Au b))] [] (.t (.int .i64 (DK b))) []:=by
 have h:=Co hb
 refine ct0 Ag Tryz.func202 Y false Y Y ?_
 repeat'(first|exact prB|refine stC ?_|refine stU (fun h=>?_) fun h=>?_|fail)
 refine Ai Y (A1y ?_)
 rw[List.length_map,An Aa Aa];rfl
theorem XF (l:List Rec) (h0:l≠[]) (hl:l.length<=1000000):A17 260 [.t (.slice .any 2 (l.map AJ))] [] (.t (.slice .any 2 (l.map AJ))) []:=by
 refine ct0 Ag Tryz.func260 Y false Y Y ?_
 cases l with
 |nil=>exact absurd Y h0
 |cons a r=>
  repeat'(first|exact prB|refine stC ?_|refine stU (fun h=>?_) fun h=>?_|refine LH Ag Y Y Y Y Y Y Y Y Y Y Y Y Y (by simp at hl⊢;omega) ?_|fail)
  refine Ai Y (A1y ?_)
  simp[B5]
  exact List.take_of_length_le Ac
theorem I6: ∀{l:List Batch} {b:Batch},l[l.length-1]?=some b->Hj l=DK b
 |[],b,h=>by simp at h
 |[a],b,h=>by simp at h;subst h;rfl
 |a::c::r,b,h=>by
  have:(c::r)[(c::r).length-1]?=some b:=by simpa using h
  simp only[Hj];exact I6 this
theorem Sn (o:Opn) (h1:1<=o.batches.length) (h2:o.batches.length<=8) (hm: ∀b∈o.batches,A9 b=true):A17 274 [.agg (Ah (As o))] [] (.t (.int .i64 (Hj o.batches))) []:=by
 have hlm:(o.batches.map Au).length=o.batches.length:=List.length_map ..
 have hr:o.batches[o.batches.length-1]?=some (o.batches[o.batches.length-1]' Aa):=List.getElem?_eq_getElem _
 have hb:=hm _ (List.mem_of_getElem? hr)
 generalize o.batches[o.batches.length-1]' Aa=b at hr hb
 rw[I6 hr]
 refine ct0 Ag Tryz.func274 Y false Y Y ?_
 have hw:IntKind.i64.wrap (((o.batches.map Au).length:Int)-1)=((o.batches.length-1:Nat):Int):=by rw[hlm,An Aa Aa];omega
 repeat'(first|exact prB|refine stC ?_|refine stU (fun h=>?_) fun h=>?_|refine JJ Ag Y Y Y Y Y Y Y hw (CL hr) Y ?_|refine stL ?_ (c:=Hf b hb)|fail)
 exact Ai Y (A1y Y)
theorem Ajg (o:Opn) (i:Nat) (b:Batch) (h1:1<=o.batches.length) (h2:o.batches.length<=8) (hm: ∀b∈o.batches,A9 b=true) (hb:A9 b=true) (hi:i<o.batches.length):
  A17 273 [.t (.int .i64 i),.agg (Ah (Au b)),.t (.ptr (As o))] [] (.agg (Ah (Az (Da o i b)))) []:=by
 have hlm:(o.batches.map Au).length=o.batches.length:=List.length_map ..
 have hbb:=Co hb
 have hne:b.recs≠[]:=fun e=>by rw[e]at hbb;simp at hbb
 have hw:IntKind.i64.wrap (((o.batches.map Au).length:Int)-1)=((o.batches.length-1:Nat):Int):=by rw[hlm,An Aa Aa];omega
 refine ct0 Ag Tryz.func273 Y false Y Y ?_
 repeat'(first|exact prB|refine stC ?_|refine stU (fun h=>?_) fun h=>?_|refine stL ?_ (c:=XF b.recs hne Aa)|refine stL ?_ (c:=Sn o h1 h2 hm)|fail)
 ·have e:i+1=o.batches.length:=by rw[hw]at h;omega
  refine Ai Y ?_
  simp only[Da,e,if_true]
  repeat'(first|exact A1x _|exact Ak|exact Ar|exact trivial|refine AA ?_|refine Ap ?_|refine And.intro ?_ ?_)
 ·have e: ¬i+1=o.batches.length:=by rw[hw]at h;omega
  refine Ai Y ?_
  simp only[Da,e,if_false]
  repeat'(first|exact A1x _|exact Ak|exact Ar|exact trivial|refine AA ?_|refine Ap ?_|refine And.intro ?_ ?_)
theorem Alz (o:Opn) (h1:1<=o.batches.length) (h2:o.batches.length<=8) (hm: ∀b∈o.batches,A9 b=true):
  A17 272 [.t (.slice .any 5 (o.batches.map Au)),.t (.func (.func 273) [] [.ptr (As o)])] [] (.t (.slice .any 18 ((B7 o).map Az))) []:=by
 have hlm:(o.batches.map Au).length=o.batches.length:=List.length_map ..
 refine ct0 Ag Tryz.func272 Y false Y Y ?_
 have hcn:(((o.batches.map Au).length:Nat):Int)=((o.batches.length:Nat):Int):=by rw[hlm]
 repeat'(first|exact prB|refine stC ?_|refine stU (fun h=>?_) fun h=>?_|refine Dn Ag Y Y Y Y Y Y Y (l:=0) Y hcn Y Y Aa Aa ?_|fail)
 refine A3 (ι:=Nat) (fun i=>i<=o.batches.length) (fun i=>[(1,.t (.func (.func 273) [] [.ptr (As o)])),(5,.row 20 18 0 (((o.batches.take i).mapIdx (Da o)).map Az).length),(11,.t (.slice .any 5 (o.batches.map Au))),(12,.t (.int .i64 o.batches.length)),(13,.t (.int .i64 i))]) (fun i=>[(20,.grow 18 (((o.batches.take i).mapIdx (Da o)).map Az))]) (fun i=>o.batches.length-i) 0 Ac ?_ ?_
 ·exact AE [] (Af Y Y (Af Y Y (Af Y Y (Af Y (by rw[hlm]) (Af Y Y Aj))))) Y
 rintro i hi
 by_cases hlt:i<o.batches.length
 ·have hr:o.batches[i]?=some o.batches[i]:=List.getElem?_eq_getElem hlt
  have hb:=hm o.batches[i] (List.getElem_mem hlt)
  generalize o.batches[i]=r at hr hb
  have ht:(o.batches.take (i+1)).mapIdx (Da o)=(o.batches.take i).mapIdx (Da o)++[Da o i r]:=by
   rw[A5 hr,List.mapIdx_append];simp;congr 1;omega
  repeat'(first|exact prB|refine stC ?_|refine stU (fun h=>?_) fun h=>?_|refine stL ?_ (c:=Ajg o i r h1 h2 hm hb hlt)|fail)
  refine Ay (i+1) hlt Aa [7] (Af Y Y (Af Y ?_ (Af Y Y (Af Y Y (Af Y ?_ Aj))))) ?_
  ·rw[ht];simp[Bq];rfl
  ·rw[An Aa Aa];rfl
  ·rw[ht];simp only[List.map_append,List.map_cons,List.map_nil];rfl
 ·repeat'(first|exact prB|refine stC ?_|refine stU (fun h=>?_) fun h=>?_|fail)
  refine Ai Y ?_
  rw[List.take_of_length_le Aa]
  refine A1y ?_
  simp[B5,B7]
  exact List.take_of_length_le Ac
theorem Js: ∀{l:List Batch} {b:Batch},l[0]?=some b->IA l=b.seq
 |[],b,h=>by simp at h
 |a::r,b,h=>by simp at h;subst h;rfl
theorem Aet (o:Opn) (h:B6 o=true):A17 270 [.agg (Ah (As o))] [] (.t .nilIface) []:=by
 have hlm:(o.batches.map Au).length=o.batches.length:=List.length_map ..
 simp only[B6,Bool.and_eq_true,decide_eq_true_eq]at h
 obtain⟨⟨h1,h2⟩,hch⟩:=h
 have hr0:o.batches[0]?=some (o.batches[0]' Aa):=List.getElem?_eq_getElem _
 have hf:=Js hr0
 rw[hf]at hch
 generalize o.batches[0]' Aa=b0' at hr0 hch
 refine ct0 Ag Tryz.func270 Y false Y Y ?_
 repeat'(first|exact prB|refine stC ?_|refine stU (fun h=>?_) fun h=>?_|refine G5 (kc:=0) Ag Y Y Y Y Y Y Y (CL hr0) Y ?_|fail)
 refine A3 (ι:=Nat×Int) (fun p=>p.1<=o.batches.length/\C2 o.pid o.epoch p.2 (o.batches.drop p.1)=true) (fun p=>[(1,.ref 2 0),(3,.t (.int .i64 p.2)),(25,.t (.slice .any 5 (o.batches.map Au))),(26,.t (.int .i64 o.batches.length)),(27,.t (.int .i64 p.1))]) (fun _=>[(2,.cells (Ah (As o)))]) (fun p=>o.batches.length-p.1) (0,b0'.seq) ⟨by simp,hch⟩ ?_ ?_
 ·exact AE [] (Af Y Y (Af Y Y (Af Y Y (Af Y (by rw[hlm]) (Af Y Y Aj))))) Y
 rintro⟨i,next⟩ ⟨hi,hc⟩
 simp only at hi hc
 by_cases hlt:i<o.batches.length
 ·have hr:o.batches[i]?=some o.batches[i]:=List.getElem?_eq_getElem hlt
  generalize o.batches[i]=r at hr
  rw[Db hr]at hc
  simp only[C2,Bool.and_eq_true,decide_eq_true_eq]at hc
  obtain⟨⟨⟨⟨⟨c1,c2⟩,c3⟩,c4⟩,c5⟩,c6⟩:=hc
  have hbb:=Co c1
  have cm:A17 182 [.agg (Ah (Au r))] [] (.t (.bool true)) []:=c1▸Fl r Aa
  repeat'(first|exact prB|refine stC ?_|refine stU (fun h=>?_) fun h=>?_|refine stL ?_ (c:=cm)|refine stL ?_ (c:=Hf r c1)|fail)
  all_goals try(exfalso;simp_all;done)
  refine Ay (i+1,DK r) ⟨hlt,c6⟩ (by simp;omega) [5] (Af Y Y (Af Y Y (Af Y Y (Af Y Y (Af Y ?_ Aj))))) Y
  rw[An Aa Aa];rfl
 ·repeat'(first|exact prB|refine stC ?_|refine stU (fun h=>?_) fun h=>?_|fail)
  exact Ai Y (A1y Y)
theorem Ls {pid epoch:Int}: ∀{l:List Batch} {next:Int},C2 pid epoch next l=true-> ∀b∈l,A9 b=true
 |[],_,_,b,hb=>by simp at hb
 |a::r,next,h,b,hb=>by
  simp only[C2,Bool.and_eq_true]at h
  simp only[List.mem_cons]at hb
  rcases hb with rfl|hb
  ·exact h.1.1.1.1.1
  ·exact Ls h.2 b hb
theorem Lq (o:Opn) (h:B6 o=true):A17 200 [.agg (Ah (As o))] [] (.tuple [.t (.slice .any 18 ((B7 o).map Az)),.t (.int .i64 0)]) []:=by
 have h':=h
 simp only[B6,Bool.and_eq_true,decide_eq_true_eq]at h'
 obtain⟨⟨h1,h2⟩,hch⟩:=h'
 refine ct0 Ag Tryz.func200 Y false Y Y ?_
 refine Ik ?_
 refine L4 Ag Y Y ?_
 repeat'(first|exact prB|refine stA ?_|refine stU (fun h=>?_) fun h=>?_|fail)
 refine A12 (cs:=As o) 1 2 Y Y Y Y ?_
 repeat'(first|exact prB|refine stC ?_|refine stU (fun h=>?_) fun h=>?_|refine stL ?_ (c:=Aet o h)|refine stL ?_ (c:=Alz o h1 h2 (Ls hch))|fail)
 exact Ai Y (A1y Y)
theorem Aiw (name:Bs) (l:List Entry) (hl:l.length<=1000000) (hsm: ∀x∈l,DW x) (hne:l≠[]) (hall:l.all B9=true):A17 188 [.t (.str name),.t (.slice .any 18 (l.map Az))] [] (.tuple [.row 86 4 0 ((Dp name l).map AF).length,.t (.int .i64 0)]) [(86,.grow 4 ((Dp name l).map AF))]:=by
 refine ct1 Ag Tryz.func188 Y Y ?_
 have cl:=R8 l hl hsm
 ·simp only[if_pos hall]at cl
  have hlm:((l.map Bx).map Ic).length=l.length:=by simp
  repeat'(first|exact prB|refine stC ?_|refine stU (fun h=>?_) fun h=>?_|refine stL ?_ (c:=cl)|fail)
  ·exact absurd (List.eq_nil_of_length_eq_zero Aa) hne
  refine A1z 8 43 4 Y Y ?_
  refine A3 (ι:=Nat) (fun i=>i<=l.length) (fun i=>[(0,.t (.str name)),(8,.row 86 4 0 (((l.take i).map (HS name)).map AF).length),(25,.t (.slice .any 1 ((l.map Bx).map Ic))),(26,.t (.int .i64 l.length)),(27,.t (.int .i64 i))]) (fun i=>[(86,.grow 4 (((l.take i).map (HS name)).map AF))]) (fun i=>l.length-i) 0 Ac ?_ ?_
  ·exact AE [] (Af Y Y (Af Y Y (Af Y Y (Af Y (by rw[hlm]) (Af Y Y Aj))))) Y
  rintro i hi
  by_cases hlt:i<l.length
  ·have hr:l[i]?=some l[i]:=List.getElem?_eq_getElem hlt
   have hm:=List.all_eq_true.1 hall l[i] (List.getElem_mem hlt)
   generalize l[i]=r at hr hm
   have hr2:(l.map Bx)[i]?=some (Bx r):=by simp[hr]
   repeat'(first|exact prB|refine stC ?_|refine stU (fun h=>?_) fun h=>?_|refine stL ?_ (c:=Ll _ (H5 hm))|fail)
   refine Ay (i+1) hlt Aa [] (Af Y Y (Af Y ?_ (Af Y Y (Af Y Y (Af Y ?_ Aj))))) ?_
   ·rw[A5 hr];simp[Bq]
   ·rw[An Aa Aa];rfl
   ·rw[A5 hr];simp[Bq,JK,AF,HS,EY,CP]
  ·repeat'(first|exact prB|refine stC ?_|refine stU (fun h=>?_) fun h=>?_|fail)
   rw[List.take_of_length_le Aa]
   have eW:((l.map (HS name)).map AF)++Bq 4 1 [T.int .i8 1,.str name,.str [],.int .i64 0]=(Dp name l).map AF:=by simp[Dp,Bq,AF]
   refine Ba [] Y Y ?_ (A1y ?_)
   ·rw[<-eW];rfl
   ·rw[<-eW];rfl
end Go.Proofs.YtmohpcgmdheafaaGreatDoor
namespace Go.Proofs.YtmohpcgmdheafaaGreatDoor
open Go.Am
attribute [local irreducible] Decidable.decide
theorem HV {e:TypeId} {fz:Nat×Nat} (b:Nat): ∀(us:List Value) (o:Nat) (w:World) (vs:Array Value),w.heap[b]?=some (.cells vs e fz)-> ∃vs':Array Value,(w.setCells b o us).heap[b]?=some (.cells vs' e fz)/\vs'.size=vs.size
 |[],o,w,vs,h=>⟨vs,h,Y⟩
 |u::r,o,w,vs,h=>by
  obtain⟨vs',h1,h2⟩:=HV (e:=e) (fz:=fz) b r (o+1) (w.setCell ⟨b,o,none⟩ u) (vs.setIfInBounds o u) (by simp[World.setCell,Array.getElem?_modify,h])
  exact⟨vs',h1,by rw[h2];simp⟩
theorem HU (b:Nat): ∀(us:List Value) (o:Nat) (w:World),(w.setCells b o us).heap.size=w.heap.size
 |[],_,_=>rfl
 |u::r,o,w=>by rw[World.setCells,HU b r];simp[World.setCell]
theorem Hb {b c:Nat} (hne:c≠b): ∀(us:List Value) (o:Nat) (w:World),(w.setCells b o us).heap[c]?=w.heap[c]?
 |[],_,_=>rfl
 |u::r,o,w=>by rw[World.setCells,Hb hne r];simp[World.setCell,Array.getElem?_modify,Ne.symm hne]
theorem JS (b:Nat): ∀(us:List Value) (o:Nat) (w:World),(w.setCells b o us).os=w.os
 |[],_,_=>rfl
 |u::r,o,w=>by rw[World.setCells,JS b r];rfl
theorem IZ (b:Nat): ∀(us:List Value) (o:Nat) (w:World),(w.setCells b o us).output=w.output
 |[],_,_=>rfl
 |u::r,o,w=>by rw[World.setCells,IZ b r];rfl
theorem TG {α:Type} (sz:Nat): ∀(es:List (List α)) (i:Nat),(∀e∈es,e.length=sz)->(es.take i).flatten=es.flatten.take (i*sz)
 |[],i,_=>by simp
 |a::r,0,_=>by simp
 |a::r,i+1,h=>by
  have ha:=h a Ac
  rw[List.take_succ_cons,List.flatten_cons,List.flatten_cons,TG sz r i (fun e he=>h e (by simp[he])),show(i+1)*sz=a.length+i*sz by rw[ha,Nat.succ_mul];omega,List.take_length_add_append]
theorem TH {α:Type} (sz:Nat): ∀(es:List (List α)) (i:Nat),(∀e∈es,e.length=sz)->(es.drop i).flatten=es.flatten.drop (i*sz)
 |[],i,_=>by simp
 |a::r,0,_=>by simp
 |a::r,i+1,h=>by
  have ha:=h a Ac
  rw[List.drop_succ_cons,List.flatten_cons,TH sz r i (fun e he=>h e (by simp[he])),show(i+1)*sz=a.length+i*sz by rw[ha,Nat.succ_mul];omega,List.drop_length_add_append]
theorem Uc (σ:St) (b:Nat) (es:List (List T)) (i:Nat) (hb:Go.Am.look σ b=some (Blk.grow 3 es)) (hi:i<es.length) (hlim:es.length<=1000000):
  A17 142 [.row b 3 0 es.length,.t (.int .i64 i),.t (.int .i64 ((i:Int)+1))] σ (.row b 3 0 (es.length-1)) (upd σ b (.grow 3 (es.eraseIdx i))):=by
 refine⟨⟨_,Tryz.func142,Y⟩,fun vs w g hr hinv=>?_⟩
 obtain⟨hlen,hrel⟩:=hr
 match vs,hlen with
 |[v1,v2,v3],_=>
  have r1:=hrel 0 v1 _ Y Y
  have e2:=C3 (hrel 1 v2 _ Y Y)
  have e3:=C3 (hrel 2 v3 _ Y Y)
  subst e2;subst e3
  generalize hn:es.length=n at r1 hi
  cases r1 with
  |rowNil=>omega
  |row _ _ _ _ blk o cap e m h hs ho hlc hm=>
   obtain⟨hsz,hor⟩:=hinv.ok b _ hb
   rcases hor with⟨h1,_⟩|⟨blk',u,e',k1,k2,k3,k4,k5⟩
   ·rw[h1]at h;cases h
   rw[k1]at h;cases h
   simp only[World.shape?,k3,Option.some.injEq,Prod.mk.injEq]at hs
   obtain⟨rfl,rfl⟩:=hs
   have ho':o=0:=by rcases ho with h|h<;>omega
   subst ho'
   have hcell: ∀k,w.cell? ⟨blk,k,none⟩=u[k]?:=fun k=>by simp[World.cell?,k3]
   have hfz: ∀k,w.frozen? ⟨blk,k,none⟩=false:=fun k=>by simp[World.frozen?,k3]
   have hFl:=Dg 3 es hsz
   rw[hn]at hFl
   have hone: ∀k (hk:k<n*3),∃v x,u[k]?=some v/\es.flatten[k]?=some x/\CK x=true/\RelT w g.M v x:=fun k hk=>by
    have h1:k<u.size:=by omega
    have h2:k<es.flatten.length:=by omega
    exact⟨u[k],es.flatten[k],by simp[h1],by simp[h2],k5 k _ _ (by simp[h1]) (by simp[h2])⟩
   have hml:((u.toList.drop ((i+1)*3)).take ((n-(i+1))*3)).length=(n-(i+1))*3:=by
    rw[List.length_take,List.length_drop,Array.length_toList];omega
   have hmg: ∀j,j<(n-(i+1))*3->((u.toList.drop ((i+1)*3)).take ((n-(i+1))*3))[j]?=u[(i+1)*3+j]?:=fun j hj=>by
    rw[List.getElem?_take,if_pos hj,List.getElem?_drop,Array.getElem?_toList]
   generalize hmv:(u.toList.drop ((i+1)*3)).take ((n-(i+1))*3)=moved at hml hmg
   have hjl: ∀j (v:Value),moved[j]?=some v->j<(n-(i+1))*3:=fun j v hv=>by rw[<-hml];exact(List.getElem?_eq_some_iff.1 hv).1
   refine(Ajb blk 0 n cap i moved w hi hlc Aa hml (fun j v hv=>?_) (fun v hv=>?_) (fun j hj=>?_) (fun j _=>hfz _)).mono ?_
   ·rw[hcell,Nat.zero_add,<-hmg j (hjl j v hv)];exact hv
   ·obtain⟨j,hj⟩:=List.getElem?_of_mem hv
    have hjl':=hjl j v hj
    rw[hmg j hjl']at hj
    obtain⟨v',x,q1,_,q3,q4⟩:=hone ((i+1)*3+j) Aa
    rw[q1]at hj;cases hj
    exact(MN q4 q3).1
   ·rw[hcell];simp;omega
   rintro ev w' ⟨rfl,rfl⟩
   obtain⟨u1,a1,a2⟩:=HV blk moved (0+i*3) w.drew u k3
   obtain⟨u2,b1,b2⟩:=HV blk dlZ (0+(i+(n-(i+1)))*3) (w.drew.setCells blk (0+i*3) moved) u1 a1
   have hsets:Sets w ((w.drew.setCells blk (0+i*3) moved).setCells blk (0+(i+(n-(i+1)))*3) dlZ) blk u2 e':=⟨by rw[HU,HU];rfl,fun c hc=>by rw[Hb hc,Hb hc];rfl,b1,by rw[JS,JS];rfl,by rw[IZ,IZ];rfl⟩
   have hval: ∀k,k<(n-1)*3->u2[k]?=if k<i*3 then u[k]? else u[k+3]?:=fun k hk=>by
    have hc2:((w.drew.setCells blk (0+i*3) moved).setCells blk (0+(i+(n-(i+1)))*3) dlZ).cell? ⟨blk,k,none⟩=u2[k]?:=by simp only[World.cell?,b1];rfl
    rw[<-hc2,World.cell?_setCells_out _ _ _ _ _ (fun _ _=>Or.inl (by show k<_;omega))]
    split
    ·rename_i hki
     rw[World.cell?_setCells_out _ _ _ _ _ (fun _ _=>Or.inl (by show k<_;omega))]
     exact hcell k
    ·rename_i hki
     have:=World.cell?_setCells_in blk moved (0+i*3) w.drew (fun j hj=>by
      rw[show w.drew.cell? ⟨blk,0+i*3+j,none⟩=w.cell? ⟨blk,0+i*3+j,none⟩from rfl,hcell];rw[hml]at hj;simp;omega) (k-i*3) (by rw[hml];omega)
     rw[show 0+i*3+(k-i*3)=k by omega]at this
     rw[this,<-List.getElem?_eq_getElem,hmg _ Aa]
     congr 1;omega
   have hsz': ∀x∈es.eraseIdx i,x.length=3:=fun x hx=>hsz x (List.mem_of_mem_eraseIdx hx)
   have hfl':(es.eraseIdx i).flatten=es.flatten.take (i*3)++es.flatten.drop ((i+1)*3):=by
    rw[List.eraseIdx_eq_take_drop_succ,List.flatten_append,TG 3 es i hsz,TH 3 es (i+1) hsz]
   have hlen':(es.eraseIdx i).flatten.length=(n-1)*3:=by
    rw[hfl',List.length_append,List.length_take,List.length_drop,hFl];omega
   have hget: ∀k,k<(n-1)*3->(es.eraseIdx i).flatten[k]?=if k<i*3 then es.flatten[k]? else es.flatten[k+3]?:=fun k hk=>by
    rw[hfl']
    have htl:(es.flatten.take (i*3)).length=i*3:=by rw[List.length_take,hFl];omega
    split
    ·rename_i hki
     rw[List.getElem?_append_left Aa,List.getElem?_take,if_pos hki]
    ·rename_i hki
     rw[List.getElem?_append_right Aa,htl,List.getElem?_drop]
     congr 1;omega
   obtain⟨q1,q2,q3⟩:=MM hinv (B:=.grow 3 (es.eraseIdx i)) k1 k3 (by rw[b2,a2]) hsets (fun⟨cs,hcs⟩=>by rw[hb]at hcs;cases hcs) (fun hmono=>⟨hsz',.inr ⟨blk,u2,e',k1,k2,b1,by rw[hlen',b2,a2];omega,fun k v x hv hx=>by
    have hk:k<(n-1)*3:=by rw[<-hlen'];exact(List.getElem?_eq_some_iff.1 hx).1
    rw[hval k hk]at hv
    rw[hget k hk]at hx
    have key: ∀k',u[k']?=some v->es.flatten[k']?=some x->CK x=true/\RelT _ g.M v x:=fun k' h1 h2=>⟨(k5 k' v x h1 h2).1,Aw (hmono _ _ (.t _ _ (k5 k' v x h1 h2).2))⟩
    split at hv
    ·rename_i hki;rw[if_pos hki]at hx;exact key k hv hx
    ·rename_i hki;rw[if_neg hki]at hx;exact key (k+3) hv hx⟩⟩)
   refine⟨_,g,Y,q1,?_,q2⟩
   rw[show AV.row b 3 0 (n-1)=AV.row b 3 0 (i+(n-(i+1)))by congr 1;omega]
   exact .row b 3 0 _ blk 0 cap e' u2.size k1 (by simp only[World.shape?,b1]) (.inl Ac) Aa (by rw[b2,a2];omega)
def dI:T->Option Int
 |.int _ n=>some n
 |_=>none
def dB:T->Option Bool
 |.bool b=>some b
 |_=>none
def dS:T->Option Bs
 |.str s=>some s
 |_=>none
def Aza {α:Type} (f:List T->Option α):List (List T)->Option (List α)
 |[]=>some []
 |x::r=>(f x).bind fun a=>(Aza f r).bind fun l=>some (a::l)
def dL {α:Type} (f:List T->Option α):T->Option (List α)
 |.slice _ _ es=>Aza f es
 |_=>none
def A1o:List T->Option Rec
 |[a,b]=>(dS a).bind fun a=>(dS b).bind fun b=>some ⟨a,b⟩
 |_=>none
def Ajf:List T->Option Batch
 |[a,b,c,d,e]=>(dI a).bind fun a=>(dI b).bind fun b=>(dI c).bind fun c=>(dB d).bind fun d=>(dL A1o e).bind fun e=>some ⟨a,b,c,d,e⟩
 |_=>none
def Ay9:List T->Option Seen
 |[a,b,c]=>(dI a).bind fun a=>(dI b).bind fun b=>(dI c).bind fun c=>some ⟨a,b,c⟩
 |_=>none
def Arh:List T->Option Prod
 |[a,b,c,e]=>(dI a).bind fun a=>(dI b).bind fun b=>(dI c).bind fun c=>(dL Ay9 e).bind fun e=>some ⟨a,b,c,e⟩
 |_=>none
def A1n:List T->Option Row
 |[a,b,c,d,e]=>(dI a).bind fun a=>(dI b).bind fun b=>(dI c).bind fun c=>(dS d).bind fun d=>(dS e).bind fun e=>some ⟨a,b,c,d,e⟩
 |_=>none
def A1p:List T->Option Opn
 |[a,b,e]=>(dI a).bind fun a=>(dI b).bind fun b=>(dL Ajf e).bind fun e=>some ⟨a,b,e⟩
 |_=>none
def Atc:List T->Option Entry
 |[k,b1,b2,b3,b4,b5,y,n,o,r1,r2,r3,r4,r5,p1,p2,p3,p4]=>(dI k).bind fun k=>(Ajf [b1,b2,b3,b4,b5]).bind fun b=>(dB y).bind fun y=>(dI n).bind fun n=>(dI o).bind fun o=>(A1n [r1,r2,r3,r4,r5]).bind fun r=>(Arh [p1,p2,p3,p4]).bind fun p=>some ⟨k,b,y,n,o,r,p⟩
 |_=>none
def Ay8 {α:Type} (f:List T->Option α):List AV->Option α
 |[.agg cs]=>(allT cs).bind f
 |_=>none
def Atb:List AV->Option (Bs×List Entry)
 |[.t a,.t b]=>(dS a).bind fun a=>(dL Atc b).bind fun b=>some (a,b)
 |_=>none
def Y0 (x:Entry):Bool:=Nat.ble x.b.recs.length 1000000&&Nat.ble x.prod.seen.length 1000000
def As3:=Al4 269 (Ay8 Arh) (fun p=>[.agg (Ah (Al p))]) (fun p=>Nat.ble p.seen.length 1000000) (fun p=>.t (.bool (C1 p)))
def Al7:=Al4 200 (Ay8 A1p) (fun o=>[.agg (Ah (As o))]) B6 (fun o=>.tuple [.t (.slice .any 18 ((B7 o).map Az)),.t (.int .i64 0)])
def As2 (f:Nat) (xs:List AV) (σ:St):Option (AV×St):=
 bif Nat.beq f 188 then(match σ with
  |[]=>(match Atb xs with
   |some (name,l)=>(match l with
    |[]=>none
    |x::r=>bif (Nat.ble (x::r).length 1000000&&((x::r).all Y0&&(x::r).all B9))&&Mx xs [.t (.str name),.t (.slice .any 18 ((x::r).map Az))]then
     some (.tuple [.row 86 4 0 ((Dp name (x::r)).map AF).length,.t (.int .i64 0)],[(86,.grow 4 ((Dp name (x::r)).map AF))])else none)
   |none=>none)
  |_=>none)else none
theorem Al5 {f:Nat} {xs:List AV} {σ σ':St} {r:AV} (h:As2 f xs σ=some (r,σ')):A17 f xs σ r σ':=by
 unfold As2 at h
 cases hf:Nat.beq f 188 with
 |false=>rw[hf]at h;simp at h
 |true=>
  rw[hf]at h
  have:=Nat.eq_of_beq_eq_true hf
  subst this
  simp only[cond_true]at h
  split at h
  ·split at h
   ·rename_i name l hd
    split at h
    ·cases h
    ·rename_i x t
     cases hq:(Nat.ble (x::t).length 1000000&&((x::t).all Y0&&(x::t).all B9))&&Mx xs [.t (.str name),.t (.slice .any 18 ((x::t).map Az))]with
     |false=>rw[hq]at h;simp at h
     |true=>
      rw[hq]at h
      simp only[Bool.and_eq_true]at hq
      obtain⟨⟨h1,h2,h3⟩,h4⟩:=hq
      simp only[cond_true,Option.some.injEq,Prod.mk.injEq]at h
      obtain⟨rfl,rfl⟩:=h
      exact(Aiw name (x::t) (by simpa using h1) (fun y hy=>by have:=List.all_eq_true.1 h2 y hy;simp[Y0]at this;exact this) Ac h3).args (Q3 h4)
   ·cases h
  ·cases h
def As4 (f:Nat) (xs:List AV) (σ:St):Option (AV×St):=
 bif Nat.beq f 142 then(match xs with
  |[.row b sz lo n,.t (.int .i64 (.ofNat i)),.t (.int .i64 j)]=>(match Go.Am.look σ b with
   |some (.grow sz' es)=>bif Nat.beq sz 3&&(Nat.beq sz' 3&&(Nat.beq lo 0&&(Nat.beq n es.length&&(Nat.blt i es.length&&(X0 j ((i:Int)+1)&&Nat.ble es.length 1000000)))))then some (.row b 3 0 (es.length-1),upd σ b (.grow 3 (es.eraseIdx i)))else none
   |_=>none)
  |_=>none)else none
theorem Al6 {f:Nat} {xs:List AV} {σ σ':St} {r:AV} (h:As4 f xs σ=some (r,σ')):A17 f xs σ r σ':=by
 unfold As4 at h
 cases hf:Nat.beq f 142 with
 |false=>rw[hf]at h;simp at h
 |true=>
  rw[hf]at h
  have:=Nat.eq_of_beq_eq_true hf
  subst this
  simp only[cond_true]at h
  split at h
  ·rename_i b sz lo n i j
   split at h
   ·rename_i sz' es hb
    cases hq:(Nat.beq sz 3&&(Nat.beq sz' 3&&(Nat.beq lo 0&&(Nat.beq n es.length&&(Nat.blt i es.length&&(X0 j ((i:Int)+1)&&Nat.ble es.length 1000000))))))with
    |false=>rw[hq]at h;simp at h
    |true=>
     rw[hq]at h
     simp only[Bool.and_eq_true]at hq
     obtain⟨h1,h2,h3,h4,h5,h6,h7⟩:=hq
     have h1:=Nat.eq_of_beq_eq_true h1
     have h2:=Nat.eq_of_beq_eq_true h2
     have h3:=Nat.eq_of_beq_eq_true h3
     have h4:=Nat.eq_of_beq_eq_true h4
     have h6:=Xz h6
     subst h1;subst h2;subst h3;subst h4;subst h6
     simp at h
     obtain⟨rfl,rfl⟩:=h
     exact Uc σ b es i hb (by simpa[Nat.blt_eq]using h5) (by simpa using h7)
   ·cases h
  ·cases h
def spF:Nat->List AV->St->Option (AV×St):=KT As3 (KT Al7 (KT As2 As4))
theorem Age {f:Nat} {xs:List AV} {σ σ':St} {r:AV} (h:spF f xs σ=some (r,σ')):A17 f xs σ r σ':=by
 unfold spF KT at h
 split at h
 ·rename_i q hq;cases h;exact Abj (fun p hp=>EF p (by simpa using hp)) hq
 ·split at h
  ·rename_i q hq;cases h;exact Abj (fun o ho=>Lq o ho) hq
  ·split at h
   ·rename_i q hq;cases h;exact Al5 hq
   ·exact Al6 h
def Ath:Conf:={cfg with sp:=spF,ownR:=430::cfg.ownR}
theorem Alo:ProgOk Tryz.prog Ath where
 te:=Ag.te
 inv:=Ag.inv
 num:=Ag.num
 mix:=Ag.mix
 sp:=fun f xs σ r σ' h=>Age h
noncomputable def spG:Nat->List AV->St->Option (AV×St):=KT spF (Aif Tryz.prog Ath [76])
theorem Ary {f:Nat} {xs:List AV} {σ σ':St} {r:AV} (h:spG f xs σ=some (r,σ')):A17 f xs σ r σ':=by
 unfold spG KT at h
 split at h
 ·rename_i q hq;cases h;exact Age hq
 ·exact Aie Alo h
noncomputable def A1r:Conf:={Ath with own:=[76,78,142],sp:=spG}
theorem UO:ProgOk Tryz.prog A1r where
 te:=Ag.te
 inv:=Ag.inv
 num:=Ag.num
 mix:=Ag.mix
 sp:=fun f xs σ r σ' h=>Ary h
end Go.Proofs.YtmohpcgmdheafaaGreatDoor
