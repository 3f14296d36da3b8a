/- Contracts and laws, joined: Qc, Qd. No condition beside those that each theorem names. -/
import Derived.Test.YtmohpcgmdheafaaGreatDoorZJ5
set_option linter.unusedVariables false
set_option linter.unusedSimpArgs false
set_option maxRecDepth 100000
set_option maxHeartbeats 8000000
namespace Go.Proofs.YtmohpcgmdheafaaGreatDoor
open Go.Am
attribute [local irreducible] Decidable.decide Tr A2 hSK hSW
def EM (r:Row):Bool:=decide (r.pid<1\/r.pid>8\/r.seq<0\/r.seq>=1048576\/r.key.length>16\/r.value.length>16)
theorem Afh (r:Row):A17 198 [.agg (Ah (A8 r))] [] (.t (.bool (EM r))) []:=by
 refine ct0 Ag Tryz.func198 Y false Y Y ?_
 repeat'(first|exact prB|refine stC ?_|refine stU (fun h=>?_) fun h=>?_|refine stN (fun b hb=>?_)|fail)
 all_goals(refine Ai Y (AP ?_);simp only[EM];first|exact bI Aa|exact bT Aa|exact bF Aa)
def EI (last:Int):List Prod->Bool
 |[]=>true
 |p::r=>(decide (last<p.pid)&&C1 p)&&EI p.pid r
def Ef (l:List Prod):Bool:=EI 0 l
def KK (l:List Prod):Prop:=l.length<=1000000/\ ∀p∈l,p.seen.length<=1000000
theorem Ahv (l:List Prod) (hl:KK l):A17 199 [.t (.slice .any 4 (l.map Al))] [] (.t (.bool (Ef l))) []:=by
 obtain⟨hl,hsm⟩:=hl
 have hlm:(l.map Al).length=l.length:=List.length_map ..
 refine ct0 Ag Tryz.func199 Y false Y Y ?_
 repeat'(first|exact prB|refine stC ?_|refine stU (fun h=>?_) fun h=>?_|refine stN (fun b hb=>?_)|fail)
 refine A3 (ι:=Nat×Int) (fun q=>q.1<=l.length/\Ef l=EI q.2 (l.drop q.1)) (fun q=>[(3,.t (.int .i64 q.2)),(6,.t (.slice .any 4 (l.map Al))),(7,.t (.int .i64 ((l.map Al).length:Int))),(8,.t (.int .i64 q.1))]) (fun _=>[]) (fun q=>l.length-q.1) (0,0) ⟨by simp,Y⟩ ?_ ?_
 ·exact AE [] (Af Y Y (Af Y Y (Af Y Y (Af Y Y Aj)))) Y
 rintro⟨i,last⟩ ⟨hi,hm⟩
 simp only at hi hm
 by_cases hlt:i<l.length
 ·have hr:l[i]?=some l[i]:=List.getElem?_eq_getElem hlt
  have hs:=hsm l[i] (List.getElem_mem hlt)
  generalize l[i]=r at hr hs
  rw[Db hr]at hm
  simp only[EI]at hm
  repeat'(first|exact prB|refine stC ?_|refine stU (fun h=>?_) fun h=>?_|refine stN (fun b hb=>?_)|refine stL ?_ (c:=EF r hs)|fail)
  ·have hk:C1 r=false:=by simpa using h
   refine Ai Y (AP ?_);rw[hm,hk];simp
  ·have hk:C1 r=true:=Classical.byContradiction h
   refine Ay (i+1,r.pid) ⟨by simp;omega,?_⟩ (by simp;omega) [5] (Af Y Y (Af Y Y (Af Y Y (Af Y ?_ Aj)))) Y
   ·rw[hm,hk,decide_eq_true (show last<r.pid by simp only at*;omega)];rfl
   ·rw[An Aa Aa];rfl
  ·refine Ai Y (AP ?_);rw[hm,decide_eq_false (show ¬last<r.pid by simp only at*;omega)];simp
 ·repeat'(first|exact prB|refine stC ?_|refine stU (fun h=>?_) fun h=>?_|refine stN (fun b hb=>?_)|fail)
  refine Ai Y (AP ?_)
  rw[hm,List.drop_of_length_le Aa];rfl
def SA {α:Type} (p:α->Bool) (l:List α):Int:=match l.findIdx? p with
 |some i=>(i:Int)
 |none=>(l.length:Int)
theorem As6 {α:Type} {p:α->Bool} {l:List α} {i:Nat} {x:α} (h:l[i]?=some x) (ha:(l.take i).any p=false) (hp:p x=true):SA p l=(i:Int)/\l.any p=true:=by
 have:=Vi h ha hp
 refine⟨?_,ZN h hp⟩
 unfold Gc at this;unfold SA
 split at this
 ·rename_i j hj;rw[hj];exact this
 ·omega
theorem Aih {α:Type} {p:α->Bool} {l:List α} (h:l.any p=false):SA p l=(l.length:Int):=by
 have:=Ku h
 unfold Gc at this;unfold SA
 split at this
 ·omega
 ·rename_i hj;rw[hj]
theorem PW {α:Type} {p:α->Bool} {l:List α} (h:l.any p=true): ∃(i:Nat) (x:α),l[i]?=some x/\SA p l=(i:Int)/\l.find? p=some x/\p x=true:=by
 have h1: ∃i,l.findIdx? p=some i:=by
  cases hf:l.findIdx? p with
  |some i=>exact⟨i,Y⟩
  |none=>rw[List.findIdx?_eq_none_iff]at hf;rw[List.any_eq_true]at h;obtain⟨x,hx,hp⟩:=h;have:=hf x hx;simp[hp]at this
 obtain⟨i,hi⟩:=h1
 have h2:=List.findIdx?_eq_some_iff_getElem.1 hi
 obtain⟨hlt,hp,hno⟩:=h2
 refine⟨i,l[i],List.getElem?_eq_getElem hlt,by simp[SA,hi],?_,hp⟩
 rw[List.find?_eq_some_iff_getElem]
 exact⟨hp,i,hlt,Y,fun j hj=>by have:=hno j hj;simpa using this⟩
theorem N1 (fnum:Nat) (cap:List T) (p:Prod->Bool) (l:List Prod) (hl:l.length<=1000000000) (hf: ∀r,A17 fnum (.agg (Ah (Al r))::Ah cap) [] (.t (.bool (p r))) []) (hfr:D7 (Ah cap)=true):
  A17 143 [.t (.slice .any 4 (l.map Al)),.t (.func (.func fnum) [] cap)] [] (.tuple [.t (.int .i64 (SA p l)),.t (.bool (l.any p))]) []:=by
 refine ct0 Ag Tryz.func143 Y false Y Y ?_
 have hlm:(l.map Al).length=l.length:=List.length_map ..
 repeat'(first|exact prB|refine stC ?_|refine stU (fun h=>?_) fun h=>?_|refine stN (fun b hb=>?_)|fail)
 refine A3 (ι:=Nat) (fun i=>i<=l.length/\(l.take i).any p=false) (fun i=>[(0,.t (.slice .any 4 (l.map Al))),(1,.t (.func (.func fnum) [] cap)),(8,.t (.slice .any 4 (l.map Al))),(9,.t (.int .i64 ((l.map Al).length:Int))),(10,.t (.int .i64 i))]) (fun _=>[]) (fun i=>l.length-i) 0 Ac ?_ ?_
 ·exact AE [] (Af Y Y (Af Y Y (Af Y Y (Af Y Y (Af Y Y Aj))))) Y
 rintro i ⟨hi,hany⟩
 by_cases hlt:i<l.length
 ·have hr:l[i]?=some l[i]:=List.getElem?_eq_getElem hlt
  generalize l[i]=r at hr
  repeat'(first|exact prB|refine stC ?_|refine stU (fun h=>?_) fun h=>?_|refine stN (fun b hb=>?_)|refine Qt Ag Y Y Y Y Y Y hfr (hf r) Y Y ?_|fail)
  ·obtain⟨q1,q2⟩:=As6 hr hany h
   exact Ai Y (A1y (by rw[q1,q2]))
  ·refine Ay (i+1) ⟨hlt,Du hr hany (by simpa using h)⟩ Aa [7] (Af Y Y (Af Y Y (Af Y Y (Af Y Y (Af Y ?_ Aj))))) Y
   rw[An Aa Aa];rfl
 ·repeat'(first|exact prB|refine stC ?_|refine stU (fun h=>?_) fun h=>?_|refine stN (fun b hb=>?_)|fail)
  have ha:=F0 Aa hany
  exact Ai Y (A1y (by rw[Aih ha,ha,hlm]))
theorem N9 (l:List Seen) (hl:l.length<=1000000):A17 138 [.t (.slice .any 3 (l.map AM))] [] (.t (.slice .any 3 (l.map AM))) []:=by
 refine ct0 Ag Tryz.func138 Y false Y Y ?_
 have hlm:(l.map AM).length=l.length:=List.length_map ..
 repeat'(first|exact prB|refine stC ?_|refine stU (fun h=>?_) fun h=>?_|refine stN (fun b hb=>?_)|refine LH Ag Y Y Y Y Y Y Y Y Y Y Y Y Y (by simp;omega) ?_|fail)
 ·refine Ai Y ?_
  have h0:=hb h
  rw[h0];exact Ak
 ·refine Ai Y (A1y ?_)
  simp[B5]
  exact List.take_of_length_le Ac
theorem V1 (l:List Rec) (hl:l.length<=1000000):A17 260 [.t (.slice .any 2 (l.map AJ))] [] (.t (.slice .any 2 (l.map AJ))) []:=by
 refine ct0 Ag Tryz.func260 Y false Y Y ?_
 have hlm:(l.map AJ).length=l.length:=List.length_map ..
 repeat'(first|exact prB|refine stC ?_|refine stU (fun h=>?_) fun h=>?_|refine stN (fun b hb=>?_)|refine LH Ag Y Y Y Y Y Y Y Y Y Y Y Y Y (by simp;omega) ?_|fail)
 ·refine Ai Y ?_
  have h0:=hb h
  rw[h0];exact Ak
 ·refine Ai Y (A1y ?_)
  simp[B5]
  exact List.take_of_length_le Ac
theorem Lr (p:Prod) (h:p.seen.length<=1000000):A17 213 [.agg (Ah (Al p))] [] (.agg (Ah (Al p))) []:=by
 refine ct0 Ag Tryz.func213 Y false Y Y ?_
 repeat'(first|exact prB|refine stC ?_|refine stU (fun h=>?_) fun h=>?_|refine stN (fun b hb=>?_)|refine stL ?_ (c:=N9 p.seen h)|fail)
 exact Ai Y (A1x _)
def HJ:Prod:=⟨0,0,0,[]⟩
def BM (l:List Prod) (pid:Int):Prod:=(l.find? (fun p=>decide (p.pid=pid))).getD HJ
def FE (l:List Prod) (pid:Int):Bool:=l.any (fun p=>decide (p.pid=pid))
theorem Z1 (pid:Int) (p:Prod):A17 275 (.agg (Ah (Al p))::Ah [.ptr [.int .i64 pid]]) [] (.t (.bool (decide (p.pid=pid)))) []:=by
 refine ct0 Ag Tryz.func275 Y false Y Y ?_
 repeat'(first|exact prB|refine stC ?_|refine stU (fun h=>?_) fun h=>?_|refine stN (fun b hb=>?_)|fail)
 exact Ai Y (A1x _)
theorem Aiq (l:List Prod) (pid:Int) (hl:KK l):A17 201 [.t (.slice .any 4 (l.map Al)),.t (.int .i64 pid)] [] (.tuple [.agg (Ah (Al (BM l pid))),.t (.bool (FE l pid))]) []:=by
 obtain⟨hl,hsm⟩:=hl
 have cf:=N1 275 [.ptr [.int .i64 pid]] (fun p=>decide (p.pid=pid)) l Aa (Z1 pid) Y
 refine ct0 Ag Tryz.func201 Y false Y Y ?_
 refine Ik ?_
 refine L4 Ag Y Y ?_
 repeat'(first|exact prB|refine stA ?_|refine stU (fun h=>?_) fun h=>?_|refine stN (fun b hb=>?_)|fail)
 refine A12 (cs:=[.int .i64 pid]) 3 6 Y Y Y Y ?_
 cases hh:l.any (fun p=>decide (p.pid=pid))with
 |false=>
  rw[hh]at cf
  have hfp:BM l pid=HJ:=by
   have:l.find? (fun p=>decide (p.pid=pid))=none:=by rw[List.find?_eq_none];intro x hx;have:=List.any_eq_false.1 hh x hx;simpa using this
   simp[BM,this]
  repeat'(first|exact prB|refine stC ?_|refine stU (fun h=>?_) fun h=>?_|refine stN (fun b hb=>?_)|refine stL ?_ (c:=cf)|fail)
  refine Ai Y ?_
  rw[FE,hh,hfp]
  exact Ap ⟨AA ⟨A1x _,A1x _,A1x _,Ak,trivial⟩,A1x _,trivial⟩
 |true=>
  rw[hh]at cf
  obtain⟨i,x,hx,hi,hfx,_⟩:=PW hh
  have hfp:BM l pid=x:=by simp[BM,hfx]
  have hsx:=hsm x (List.mem_of_getElem? hx)
  repeat'(first|exact prB|refine stC ?_|refine stU (fun h=>?_) fun h=>?_|refine stN (fun b hb=>?_)|refine stL ?_ (c:=cf)|refine JJ Ag Y Y Y Y Y Y Y hi (CL hx) Y ?_|refine stL ?_ (c:=Lr x hsx)|fail)
  refine Ai Y (A1y ?_)
  rw[FE,hh,hfp];rfl
theorem Ae2:Yk 289 1:=Ae3 Atk
theorem V7:Yk 398 1:=Ae3 Ae4
theorem XU:Yk 231 1:=Ae3 Aj2
theorem Ad3:Akn 289 1:=Asw
theorem Vh:Akn 398 1:=Ad5
theorem YJ:A17 185 [.t .nilIface] [] (.t (.int .i64 0)) []:=by
 refine ct0 Ag Tryz.func185 Y false Y Y ?_
 repeat'(first|exact prB|refine stC ?_|refine stU (fun h=>?_) fun h=>?_|refine stN (fun b hb=>?_)|fail)
 exact Ai Y (A1y Y)
theorem Ac2 (s:Bs) (n:Int):A17 185 [.t (CE 289 s n)] [] (.t (.int .i64 n)) []:=by
 refine ct0 Ag Tryz.func185 Y false Y Y ?_
 repeat'(first|exact prB|refine stC ?_|refine stU (fun h=>?_) fun h=>?_|refine stN (fun b hb=>?_)|refine stL ?_ (c:=Abi Ad3 [.str s,.int .i64 n] n 130 Y)|refine A0 Ag [(6,1)] [(1,6)] Y Y Y Y Y (Uq Ae2 [.str s,.int .i64 n] n 0 Y) Y Y Y Y Y ?_|fail)
 all_goals(refine Ai Y (A1y ?_);first|rfl|(rw[show n=130 by omega]))
theorem Ud (s:Bs) (n:Int):A17 271 [.t (CE 398 s n)] [] (.t (.int .i64 n)) []:=by
 refine ct0 Ag Tryz.func271 Y false Y Y ?_
 repeat'(first|exact prB|refine stC ?_|refine stU (fun h=>?_) fun h=>?_|refine stN (fun b hb=>?_)|refine stL ?_ (c:=Abi Vh [.str s,.int .i64 n] n 2 Y)|refine A0 Ag [(6,1)] [(1,6)] Y Y Y Y Y (Uq V7 [.str s,.int .i64 n] n 0 Y) Y Y Y Y Y ?_|fail)
 all_goals(refine Ai Y (A1y ?_);first|rfl|(rw[show n=2 by omega]))
theorem Z5:A17 74 [.t .nilIface] [] (.t (.int .i64 0)) []:=by
 refine ct0 Ag Tryz.func74 Y false Y Y ?_
 repeat'(first|exact prB|refine stC ?_|refine stU (fun h=>?_) fun h=>?_|refine stN (fun b hb=>?_)|fail)
 exact Ai Y (A1y Y)
theorem TV (s:Bs) (n:Int):A17 74 [.t (CE 231 s n)] [] (.t (.int .i64 n)) []:=by
 refine ct0 Ag Tryz.func74 Y false Y Y ?_
 repeat'(first|exact prB|refine stC ?_|refine stU (fun h=>?_) fun h=>?_|refine stN (fun b hb=>?_)|refine stL ?_ (c:=Abi WN [.str s,.int .i64 n] n 2 Y)|refine A0 Ag [(6,1)] [(1,6)] Y Y Y Y Y (Uq XU [.str s,.int .i64 n] n 0 Y) Y Y Y Y Y ?_|fail)
 all_goals(refine Ai Y (A1y ?_);first|rfl|(rw[show n=2 by omega]))
theorem YL (p:Part) (h1:p.rows.length<=1000000000) (h2:p.opens.length<=1000000000):A17 196 [.agg (Ah (AD p))] [] (.t (.int .i64 (if DR p=true then 0 else 2))) []:=by
 refine ct0 Ag Tryz.func196 Y false Y Y ?_
 have cc:=YK p h1 h2
 unfold rdT at cc
 cases h:DR p with
 |true=>
  simp only[h,if_true]at cc
  repeat'(first|exact prB|refine stC ?_|refine stU (fun h=>?_) fun h=>?_|refine stN (fun b hb=>?_)|refine stL ?_ (c:=cc)|refine stL ?_ (c:=YJ)|fail)
  exact Ai Y (A1y Y)
 |false=>
  simp only[h,Bool.false_eq_true,if_false]at cc
  repeat'(first|exact prB|refine stC ?_|refine stU (fun h=>?_) fun h=>?_|refine stN (fun b hb=>?_)|refine stL ?_ (c:=cc)|refine stL ?_ (c:=Ac2 _ _)|fail)
  exact Ai Y (A1y Y)
def Aaq (b:Batch) (s:Seen):Bool:=decide (s.seq=b.seq/\s.count=(b.recs.length:Int))
def Aeo (l:List Prod) (b:Batch):Prod:=if FE l b.pid=true/\b.epoch<=(BM l b.pid).epoch then BM l b.pid else HJ
def Z3 (l:List Prod) (b:Batch):Bool:=FE l b.pid&&decide (b.epoch<(BM l b.pid).epoch)
def Anb (l:List Prod) (b:Batch):Int:=if(Aeo l b).seen.any (Aaq b)=true then(((Aeo l b).seen.find? (Aaq b)).map Seen.base).getD 0 else if b.seq=(Aeo l b).next then-1 else 0
def Atf (l:List Prod) (b:Batch):Int:=if Z3 l b=true then 100 else if(Aeo l b).seen.any (Aaq b)=true then 0 else if b.seq=(Aeo l b).next then 0 else 101
def Azc (l:List Prod) (b:Batch):Bool:= !Z3 l b&&(Aeo l b).seen.any (Aaq b)
end Go.Proofs.YtmohpcgmdheafaaGreatDoor
