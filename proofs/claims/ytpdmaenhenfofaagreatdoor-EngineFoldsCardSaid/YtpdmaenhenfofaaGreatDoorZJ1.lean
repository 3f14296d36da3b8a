/- Contracts and laws, joined: Rb, Rc, Rd, Re, Rf. No condition beside those that each theorem names. -/
import Derived.Test.YtpdmaenhenfofaaGreatDoorZM8
set_option linter.unusedVariables false
set_option linter.unusedSimpArgs false
namespace Go.Proofs.YtpdmaenhenfofaaGreatDoor
open Go.Am
attribute [local irreducible] Decidable.decide
set_option maxRecDepth 100000
set_option maxHeartbeats 1000000
def Cu (l:List Int):Bs:=l.flatMap fun n=>B6 n.toNat
def Dd (s:Bs):Bs:=B6 s.length++s
theorem DJ (s:Bs):Dz s=s.map Bn:=rfl
end Go.Proofs.YtpdmaenhenfofaaGreatDoor
namespace Go.Proofs.YtpdmaenhenfofaaGreatDoor
open Go.Am
attribute [local irreducible] Decidable.decide
set_option maxRecDepth 100000
set_option maxHeartbeats 1000000
def G6 (r:Rec):Bool:=decide ((r.key.length:Int)≤16)&&decide ((r.value.length:Int)≤16)
theorem JE {r:Rec}:G6 r=true↔(r.key.length:Int)≤16∧(r.value.length:Int)≤16:=by simp[G6]
theorem TM {r:Rec} (h: ¬((r.key.length:Int)≤16∧(r.value.length:Int)≤16)):G6 r=false:=by rw[←Bool.not_eq_true,JE];exact h
def Cm (b:Batch):Prop:=1≤b.pid∧b.pid≤8∧0≤b.epoch∧b.epoch≤100∧0≤b.seq∧1≤b.recs.length∧b.recs.length≤4∧b.seq+b.recs.length≤1048576
instance (b:Batch):Decidable (Cm b):=by unfold Cm;infer_instance
def A1 (b:Batch):Bool:=decide (Cm b)&&b.recs.all G6
theorem Ni {α:Type} {p:α→Bool} {l:List α} {i:Nat} {x:α} (h:l[i]?=some x) (ha:(l.take i).all p=true) (hp:p x=true):(l.take (i+1)).all p=true:=by
 rw[AL h,List.all_append,ha];simp[hp]
theorem SG {α:Type} {p:α→Bool} {l:List α} {i:Nat} {x:α} (h:l[i]?=some x) (hp:p x=false):l.all p=false:=by
 rw[List.all_eq_false];exact⟨x,List.mem_of_getElem? h,by simp[hp]⟩
theorem X4 {α:Type} {p:α→Bool} {l:List α} {i:Nat} (h:l.length≤i) (ha:(l.take i).all p=true):l.all p=true:=by
 rwa[List.take_of_length_le h]at ha
theorem Wc {b:Batch} (h: ¬Cm b):false=A1 b:=by simp[A1,h]
theorem Xq {b:Batch} (h:b.recs.all G6=false):false=A1 b:=by simp[A1,h]
theorem Adr {b:Batch} (h:Cm b) (h2:b.recs.all G6=true):true=A1 b:=by simp[A1,h,h2]
theorem Sr (b:Batch):Ct Tryz.prog 117 [.agg (Aj (Ap b))] [] (.t (.bool (A1 b))) []:=by
 refine ct0 Ac Tryz.func117 J false J J ?_
 repeat'(first|refine Ae Ac J J J ?_|refine Ag ?_|refine Ah ?_|refine Ai Ac J J ?_|(refine AP J J J J J (ht:=fun h=>?_) (hf:=fun h=>?_)<;>try exact prn)|(refine Af J (ht:=fun h=>?_) (hf:=fun h=>?_)<;>try exact prn)|refine Al ?_|refine Ao ?_|refine Ar ?_)
 all_goals try rw[List.length_map]at*
 all_goals try(refine Au J ?_;refine BJ (Wc ?_);unfold Cm;omega)
 ·rw[A0 O O]at h
  refine Au J ?_;refine BJ (Wc ?_);unfold Cm;omega
 ·rw[A0 O O]at h
  have hbd:Cm b:=by unfold Cm;omega
  refine AM (ι:=Nat) (fun i=>i≤b.recs.length∧(b.recs.take i).all G6=true) (fun i=>[(1,.ref 2 0),(3,.t (.int .i64 i))]) (fun _=>[(2,.cells (Aj (Ap b)))]) (fun i=>b.recs.length-i) 0 Z ?_ ?_
  ·exact AR [] (Ad J J (Ad J J Aq)) J
  rintro i ⟨hi,hall⟩
  by_cases hlt:i<b.recs.length
  ·have hr:b.recs[i]?=some b.recs[i]:=List.getElem?_eq_getElem hlt
   generalize b.recs[i]=r at hr
   repeat'(first|refine Ae Ac J J J ?_|refine Ag ?_|refine Ah ?_|refine Ai Ac J J ?_|(refine AP J J J J J (ht:=fun h=>?_) (hf:=fun h=>?_)<;>try exact prn)|(refine Af J (ht:=fun h=>?_) (hf:=fun h=>?_)<;>try exact prn)|refine Al ?_|refine Ao ?_|refine Ar ?_|refine AD Ac J J J J J J J (A2 Aa) J ?_)
   ·exact Au J (BJ (Xq (SG hr (TM O))))
   ·refine AF (i+1) ⟨hlt,Ni hr hall (JE.2 O)⟩ O [] (Ad J J (Ad J ?_ Aq)) J
    rw[A0 O O];rfl
   ·exact Au J (BJ (Xq (SG hr (TM O))))
  ·repeat'(first|refine Ae Ac J J J ?_|refine Ag ?_|refine Ah ?_|refine Ai Ac J J ?_|(refine Af J (ht:=fun h=>?_) (hf:=fun h=>?_)<;>try exact prn)|refine AB ?_|refine Ar ?_)
   exact Au J (BJ (Adr hbd (X4 O hall)))
end Go.Proofs.YtpdmaenhenfofaaGreatDoor
namespace Go.Proofs.YtpdmaenhenfofaaGreatDoor
open Go.Am
attribute [local irreducible] Decidable.decide
set_option maxRecDepth 100000
set_option maxHeartbeats 1000000
theorem Hm (n a b:Int):Ct Tryz.prog 119 [.t (.int .i64 n),.t (.int .i64 a),.t (.int .i64 b)] [] (.t (.bool (decide (a≤n∧n≤b)))) []:=by
 refine ct0 Ac Tryz.func119 J false J J ?_
 repeat'(first|refine Ae Ac J J J ?_|refine Ag ?_|refine Ah ?_|refine Ai Ac J J ?_|(refine AZ J J J J J (ht:=fun h=>?_) (hf:=fun h=>?_)<;>try exact prn)|refine Ar ?_)
 all_goals(refine Au J (BJ ?_);(first|exact bI O|exact bT O|exact bF O))
theorem Lv (a b:Int):Ct Tryz.prog 118 [.t (.int .i64 a),.t (.int .i64 b)] [] (.t (.bool (decide (1≤a∧a≤8∧0≤b∧b≤100)))) []:=by
 refine ct0 Ac Tryz.func118 J false J J ?_
 repeat'(first|refine Ae Ac J J J ?_|refine Ag ?_|refine Ah ?_|refine Ai Ac J J ?_|(refine AZ J J J J J (ht:=fun h=>?_) (hf:=fun h=>?_)<;>try exact prn)|refine Ar ?_)
 all_goals(refine Au J (BJ ?_);(first|exact bI O|exact bT O|exact bF O))
def Io (r:Row):Bool:=decide (1≤r.pid∧r.pid≤8∧0≤r.seq∧r.seq≤1048575∧(r.key.length:Int)≤16∧(r.value.length:Int)≤16)
theorem Wd (r:Row):Ct Tryz.prog 120 [.agg (Aj (AC r))] [] (.t (.bool (Io r))) []:=by
 refine ct0 Ac Tryz.func120 J false J J ?_
 repeat'(first|refine Ae Ac J J J ?_|refine Ag ?_|refine Ah ?_|refine Ai Ac J J ?_|(refine AZ J J J J J (ht:=fun h=>?_) (hf:=fun h=>?_)<;>try exact prn)|refine Ar ?_|refine Ak Ac J J J J J J J (Hm _ _ _) J J ?_)
 all_goals(refine Au J (BJ ?_);unfold Io;(first|exact bI O|exact bT O|exact bF O))
theorem Tt (a b:Batch) (ha:a.recs.length≤1000000):Ct Tryz.prog 76 [.agg (Aj (Ap a)),.agg (Aj (Ap b))] [] (.t (.bool (decide (a=b)))) []:=by
 refine ct0 Ac Tryz.func76 J false J J ?_
 repeat'(first|refine Ae Ac J J J ?_|refine Ag ?_|refine Ah ?_|refine Ai Ac J J ?_|(refine AP J J J J J (ht:=fun h=>?_) (hf:=fun h=>?_)<;>try exact prn)|(refine Af J (ht:=fun h=>?_) (hf:=fun h=>?_)<;>try exact prn)|refine Al ?_|refine Ao ?_|refine Ar ?_)
 all_goals try(refine Au J (BJ (bF fun e=>?_));subst e;simp at*;done)
 rename_i h1 _ _ h2 _ _ h3 _ _ h4 _ _
 simp only[List.length_map,Decidable.not_not]at*
 have hl:a.recs.length=b.recs.length:=by omega
 refine AM (ι:=Nat) (fun i=>i≤a.recs.length∧a.recs.take i=b.recs.take i) (fun i=>[(2,.ref 4 0),(3,.ref 6 0),(5,.t (.int .i64 i))]) (fun _=>[(6,.cells (Aj (Ap b))),(4,.cells (Aj (Ap a)))]) (fun i=>a.recs.length-i) 0 Z ?_ ?_
 ·exact AR [] (Ad J J (Ad J J (Ad J J Aq))) J
 rintro i ⟨hi,htk⟩
 by_cases hlt:i<a.recs.length
 ·have hr:a.recs[i]?=some a.recs[i]:=List.getElem?_eq_getElem hlt
  have hs:b.recs[i]?=some (b.recs[i]' O):=List.getElem?_eq_getElem _
  generalize a.recs[i]=r at hr
  generalize b.recs[i]' O=s at hs
  repeat'(first|refine Ae Ac J J J ?_|refine Ag ?_|refine Ah ?_|refine Ai Ac J J ?_|(refine Af J (ht:=fun h=>?_) (hf:=fun h=>?_)<;>try exact prn)|refine Al ?_|refine Ao ?_|refine Ar ?_|refine A9 (id:=6) (m:=10) Ac Y J J J J ?_|refine AA J J J J ?_|refine Bz J J J J J J J (A2 Aa) J ?_)
  ·exact Au J (BJ (bF (fun e=>by subst e;rw[hr]at hs;cases hs;simp at h)))
  ·have e:r=s:=by cases r;cases s;simp at h;simp[h]
   refine AF (i+1) ⟨hlt,IL hr hs htk e⟩ O [] (Ad J J (Ad J J (Ad J ?_ Aq))) J
   rw[A0 O O];rfl
 ·repeat'(first|refine Ae Ac J J J ?_|refine Ag ?_|refine Ah ?_|refine Ai Ac J J ?_|(refine Af J (ht:=fun h=>?_) (hf:=fun h=>?_)<;>try exact prn)|refine AB ?_|refine Ar ?_)
  have e:=KS hl O htk
  exact Au J (BJ (bT (by cases a;cases b;simp_all)))
theorem Lh (a b:Prod) (ha:a.seen.length≤1000000):Ct Tryz.prog 77 [.agg (Aj (Av a)),.agg (Aj (Av b))] [] (.t (.bool (decide (a=b)))) []:=by
 refine ct0 Ac Tryz.func77 J false J J ?_
 repeat'(first|refine Ae Ac J J J ?_|refine Ag ?_|refine Ah ?_|refine Ai Ac J J ?_|(refine AP J J J J J (ht:=fun h=>?_) (hf:=fun h=>?_)<;>try exact prn)|(refine Af J (ht:=fun h=>?_) (hf:=fun h=>?_)<;>try exact prn)|refine Al ?_|refine Ao ?_|refine Ar ?_)
 all_goals try(refine Au J (BJ (bF fun e=>?_));subst e;simp at*;done)
 simp only[List.length_map,Decidable.not_not]at*
 have hl:a.seen.length=b.seen.length:=by omega
 refine AM (ι:=Nat) (fun i=>i≤a.seen.length∧a.seen.take i=b.seen.take i) (fun i=>[(2,.ref 4 0),(3,.ref 6 0),(5,.t (.int .i64 i))]) (fun _=>[(6,.cells (Aj (Av b))),(4,.cells (Aj (Av a)))]) (fun i=>a.seen.length-i) 0 Z ?_ ?_
 ·exact AR [] (Ad J J (Ad J J (Ad J J Aq))) J
 rintro i ⟨hi,htk⟩
 by_cases hlt:i<a.seen.length
 ·have hr:a.seen[i]?=some a.seen[i]:=List.getElem?_eq_getElem hlt
  have hs:b.seen[i]?=some (b.seen[i]' O):=List.getElem?_eq_getElem _
  generalize a.seen[i]=r at hr
  generalize b.seen[i]' O=s at hs
  repeat'(first|refine Ae Ac J J J ?_|refine Ag ?_|refine Ah ?_|refine Ai Ac J J ?_|(refine Af J (ht:=fun h=>?_) (hf:=fun h=>?_)<;>try exact prn)|refine Al ?_|refine Ao ?_|refine Ar ?_|refine A9 (id:=6) (m:=10) Ac Y J J J J ?_|refine AA J J J J ?_|refine Bz J J J J J J J (A2 Aa) J ?_)
  ·exact Au J (BJ (bF (fun e=>by subst e;rw[hr]at hs;cases hs;simp at h)))
  ·have e:r=s:=by cases r;cases s;simp at h;simp[h]
   refine AF (i+1) ⟨hlt,IL hr hs htk e⟩ O [] (Ad J J (Ad J J (Ad J ?_ Aq))) J
   rw[A0 O O];rfl
 ·repeat'(first|refine Ae Ac J J J ?_|refine Ag ?_|refine Ah ?_|refine Ai Ac J J ?_|(refine Af J (ht:=fun h=>?_) (hf:=fun h=>?_)<;>try exact prn)|refine AB ?_|refine Ar ?_)
  have e:=KS hl O htk
  exact Au J (BJ (bT (by cases a;cases b;simp_all)))
end Go.Proofs.YtpdmaenhenfofaaGreatDoor
namespace Go.Proofs.YtpdmaenhenfofaaGreatDoor
open Go.Am
attribute [local irreducible] Decidable.decide
set_option maxRecDepth 100000
set_option maxHeartbeats 1000000
theorem ZA (a b:Entry) (ha:a.b.recs.length≤1000000) (hp:a.prod.seen.length≤1000000):Ct Tryz.prog 115 [.agg (Aj (A4 a)),.agg (Aj (A4 b))] [] (.t (.bool (decide (a=b)))) []:=by
 refine ct0 Ac Tryz.func115 J false J J ?_
 repeat'(first|refine Ae Ac J J J ?_|refine Ag ?_|refine Ah ?_|refine Ai Ac J J ?_|(refine AZ J J J J J (ht:=fun h=>?_) (hf:=fun h=>?_)<;>try exact prn)|refine Ar ?_|refine Ak Ac J J J J J J J (Tt a.b b.b ha) J J ?_|refine Ak Ac J J J J J J J (Lh a.prod b.prod hp) J J ?_)
 ·refine Au J (BJ (bI ?_))
  rcases a with⟨k1,b1,y1,n1,o1,⟨ro1,rp1,rs1,rk1,rv1⟩,p1⟩
  rcases b with⟨k2,b2,y2,n2,o2,⟨ro2,rp2,rs2,rk2,rv2⟩,p2⟩
  simp at*;simp[*]
 all_goals exact Au J (BJ (bF (fun e=>by subst e;simp at*)))
def IG (x:Entry):Batch:=⟨x.b.pid,x.b.epoch,0,false,[]⟩
abbrev b0:Batch:=⟨0,0,0,false,[]⟩
abbrev Ia:Row:=⟨0,0,0,[],[]⟩
abbrev DG:Prod:=⟨0,0,0,[]⟩
def Fd (x:Entry):Entry:=
 if x.kind=0 then⟨x.kind,x.b,false,0,0,Ia,DG⟩
 else if x.kind=1 then⟨x.kind,IG x,x.yes,0,0,Ia,DG⟩
 else if x.kind=2 then⟨x.kind,b0,false,0,x.offset,Ia,DG⟩
 else if x.kind=3 then⟨x.kind,x.b,x.yes,if x.yes=true then x.next else 0,0,Ia,DG⟩
 else if x.kind=4 then⟨x.kind,IG x,false,x.next,0,Ia,DG⟩
 else if x.kind=5 then⟨x.kind,b0,false,0,0,⟨0,x.row.pid,x.row.seq,x.row.key,x.row.value⟩,DG⟩
 else if x.kind=6 then⟨x.kind,b0,false,0,0,Ia,x.prod⟩
 else⟨x.kind,b0,false,0,0,Ia,DG⟩
theorem Ae6 (x:Entry):Ct Tryz.prog 116 [.agg (Aj (A4 x))] [] (.agg (Aj (A4 (Fd x)))) []:=by
 refine ct0 Ac Tryz.func116 J false J J ?_
 repeat'(first|refine An Ac J J J J J ?_|refine Ae Ac J J J ?_|refine Ag ?_|refine Ah ?_|refine Ai Ac J J ?_|(refine Af J (ht:=fun h=>?_) (hf:=fun h=>?_)<;>try exact prn)|refine Al ?_|refine Ao ?_|refine Ar ?_)
 all_goals(refine Au J ?_;unfold Fd;simp only[*,if_true,if_false,Int.reduceEq])
 all_goals repeat'(first|exact Sub.refl _|exact A6|exact Bp|exact trivial|refine B7 ?_|refine AK ?_|refine And.intro ?_ ?_)
end Go.Proofs.YtpdmaenhenfofaaGreatDoor
namespace Go.Proofs.YtpdmaenhenfofaaGreatDoor
open Go.Am
attribute [local irreducible] Decidable.decide
set_option maxRecDepth 100000
set_option maxHeartbeats 1000000
def Cp (s:Seen):Prop:=0≤s.seq∧1≤s.count∧s.count≤4∧ -1≤s.base∧s.base≤1048576
instance (s:Seen):Decidable (Cp s):=by unfold Cp;infer_instance
def CE (next:Int):List Seen→Int
 |[]=>next
 |t::_=>t.seq
def B5 (next:Int):List Seen→Bool
 |[]=>true
 |s::r=>decide (Cp s∧s.seq≤CE next r-s.count)&&B5 next r
def BU (p:Prod):Prop:=1≤p.pid∧p.pid≤8∧0≤p.epoch∧p.epoch≤100∧0≤p.next∧p.next≤1048576∧(p.seen.length:Int)≤3
instance (p:Prod):Decidable (BU p):=by unfold BU;infer_instance
def C2 (p:Prod):Bool:=decide (BU p)&&B5 p.next p.seen
theorem Fb {next:Int} (h0:0≤next) (h1:next≤1048576): ∀{l:List Seen},B5 next l=true→0≤CE next l∧CE next l≤1048576
 |[],_=>⟨h0,h1⟩
 |s::r,h=>by
  simp only[B5,Bool.and_eq_true,decide_eq_true_eq]at h
  have ih:=Fb h0 h1 h.2
  have:=h.1.1;unfold Cp at this
  simp only[CE];omega
theorem U1 {p:Prod} (h: ¬BU p):false=C2 p:=by simp[C2,h]
theorem H6 {p:Prod} (h:B5 p.next p.seen=false):false=C2 p:=by simp[C2,h]
theorem Rq {p:Prod} (h:BU p) (h2:B5 p.next p.seen=true):true=C2 p:=by simp[C2,h,h2]
theorem BE {α:Type} {l:List α} {i:Nat} {x:α} (h:l[i]?=some x):l.drop i=x::l.drop (i+1):=by
 obtain⟨hi,rfl⟩:=List.getElem?_eq_some_iff.1 h
 exact List.drop_eq_getElem_cons hi
theorem Ahj {next:Int} {l:List Seen} {r:Seen} (h: ¬Cp r):(decide (Cp r∧r.seq≤CE next l-r.count)&&B5 next l)=false:=by simp[h]
theorem Amk {next b:Int} {l:List Seen} {r:Seen} (h0:0≤next) (h1:next≤1048576) (hok:Cp r) (hb:CE next l=b) (h:IntKind.i64.wrap (b-r.count)<r.seq):(decide (Cp r∧r.seq≤CE next l-r.count)&&B5 next l)=false:=by
 cases hc:B5 next l with
 |false=>simp
 |true=>
  have:=Fb h0 h1 hc
  have hk:=hok;unfold Cp at hk
  rw[hb]at this⊢
  rw[A0 O O]at h
  have: ¬(r.seq≤b-r.count):=by omega
  simp[this]
theorem X1 {next b:Int} {l:List Seen} {r:Seen} (h0:0≤next) (h1:next≤1048576) (hok:Cp r) (hb:CE next l=b) (h: ¬IntKind.i64.wrap (b-r.count)<r.seq):(decide (Cp r∧r.seq≤CE next l-r.count)&&B5 next l)=B5 next l:=by
 cases hc:B5 next l with
 |false=>simp
 |true=>
  have:=Fb h0 h1 hc
  have hk:=hok;unfold Cp at hk
  rw[hb]at this⊢
  rw[A0 O O]at h
  have:r.seq≤b-r.count:=by omega
  simp[this,hok]
theorem Rs (p:Prod):Ct Tryz.prog 121 [.agg (Aj (Av p))] [] (.t (.bool (C2 p))) []:=by
 refine ct0 Ac Tryz.func121 J false J J ?_
 have hlm:(p.seen.map Bv).length=p.seen.length:=List.length_map ..
 repeat'(first|refine Ae Ac J J J ?_|refine Ag ?_|refine Ah ?_|refine Ai Ac J J ?_|(refine AP J J J J J (ht:=fun h=>?_) (hf:=fun h=>?_)<;>try exact prn)|(refine Af J (ht:=fun h=>?_) (hf:=fun h=>?_)<;>try exact prn)|refine Al ?_|refine Ao ?_|refine Ar ?_|refine Ak Ac J J J J J J J (Hm _ _ _) J J ?_|refine Ak Ac J J J J J J J (Lv _ _) J J ?_)
 all_goals try(refine Au J (BJ (U1 ?_));unfold BU;omega)
 have hb:BU p:=by unfold BU;omega
 have hb':=hb;unfold BU at hb'
 refine AM (ι:=Nat) (fun i=>i≤p.seen.length∧B5 p.next p.seen=B5 p.next (p.seen.drop i)) (fun i=>[(1,.ref 2 0),(3,.t (.int .i64 i))]) (fun _=>[(2,.cells (Aj (Av p)))]) (fun i=>p.seen.length-i) 0 Z ?_ ?_
 ·exact AR [] (Ad J J (Ad J J Aq)) J
 rintro i ⟨hi,hch⟩
 by_cases hlt:i<p.seen.length
 ·have hr:p.seen[i]?=some p.seen[i]:=List.getElem?_eq_getElem hlt
  generalize p.seen[i]=r at hr
  have hw:IntKind.i64.wrap ((i:Int)+1)=((i+1:Nat):Int):=by rw[A0 O O];rfl
  rw[BE hr]at hch
  simp only[B5]at hch
  by_cases h2:i+1<p.seen.length
  ·have hs:p.seen[i+1]?=some p.seen[i+1]:=List.getElem?_eq_getElem h2
   generalize p.seen[i+1]=s at hs
   have hbh:CE p.next (p.seen.drop (i+1))=s.seq:=by rw[BE hs];rfl
   repeat'(first|refine An Ac J J J J J ?_|refine Ae Ac J J J ?_|refine Ag ?_|refine Ah ?_|refine Ai Ac J J ?_|(refine AP J J J J J (ht:=fun h=>?_) (hf:=fun h=>?_)<;>try exact prn)|(refine Af J (ht:=fun h=>?_) (hf:=fun h=>?_)<;>try exact prn)|refine Al ?_|refine Ao ?_|refine Ar ?_|refine AD Ac J J J J J J J (A2 Aa) J ?_|refine KN Ac J J J J J J J Aa (A2 Aa) J ?_|refine Ak Ac J J J J J J J (Hm _ _ _) J J ?_)
   all_goals first
    |exact Au J (BJ (H6 (hch.trans (Ahj (by unfold Cp;omega)))))
    |exact Au J (BJ (H6 (hch.trans (Amk O O (by unfold Cp;omega) (hbh) h))))
    |(refine AF (i+1) ⟨by omega,hch.trans (X1 O O (by unfold Cp;omega) (hbh) h)⟩ O [4] (Ad J J (Ad J (congrArg (fun z=>AV.t (T.int .i64 z)) hw) Aq)) J)
  ·repeat'(first|refine An Ac J J J J J ?_|refine Ae Ac J J J ?_|refine Ag ?_|refine Ah ?_|refine Ai Ac J J ?_|(refine AP J J J J J (ht:=fun h=>?_) (hf:=fun h=>?_)<;>try exact prn)|(refine Af J (ht:=fun h=>?_) (hf:=fun h=>?_)<;>try exact prn)|refine Al ?_|refine Ao ?_|refine Ar ?_|refine AD Ac J J J J J J J (A2 Aa) J ?_|refine Ak Ac J J J J J J J (Hm _ _ _) J J ?_)
   all_goals first
    |exact Au J (BJ (H6 (hch.trans (Ahj (by unfold Cp;omega)))))
    |exact Au J (BJ (H6 (hch.trans (Amk O O (by unfold Cp;omega) (by rw[List.drop_of_length_le O];rfl) h))))
    |(refine AF (i+1) ⟨by omega,hch.trans (X1 O O (by unfold Cp;omega) (by rw[List.drop_of_length_le O];rfl) h)⟩ O [4] (Ad J J (Ad J (congrArg (fun z=>AV.t (T.int .i64 z)) hw) Aq)) J)
 ·repeat'(first|refine Ae Ac J J J ?_|refine Ag ?_|refine Ah ?_|refine Ai Ac J J ?_|(refine Af J (ht:=fun h=>?_) (hf:=fun h=>?_)<;>try exact prn)|refine AB ?_|refine Ar ?_)
  exact Au J (BJ (Rq hb (by rw[hch,List.drop_of_length_le O];rfl)))
end Go.Proofs.YtpdmaenhenfofaaGreatDoor
