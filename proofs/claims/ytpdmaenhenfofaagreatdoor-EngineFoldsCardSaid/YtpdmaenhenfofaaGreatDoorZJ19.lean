/- Contracts and laws, joined: Ua, Ub, Ui, Uk. No condition beside those that each theorem names. -/
import Derived.Test.YtpdmaenhenfofaaGreatDoorZM10
import Derived.Test.YtpdmaenhenfofaaGreatDoorZM11
import Derived.Test.YtpdmaenhenfofaaGreatDoorZJ17
set_option linter.unusedVariables false
set_option linter.unusedSimpArgs false
namespace Go.Proofs.YtpdmaenhenfofaaGreatDoor
open Go.Am
attribute [local irreducible] Decidable.decide
set_option maxRecDepth 100000
set_option maxHeartbeats 1000000
structure Fil where
 name:Bs
 b:Bs
 sure:Int
def C3 (f:Fil):List T:=[.str f.name,.str f.b,.int .i64 f.sure]
def CC (fs:List Fil):List T:=[.slice .any 3 (fs.map C3),.int .i64 65536,.int .i64 (-1),.bool false]
def Abl:Fil:=⟨[],[],0⟩
def Ab8 (c:UInt8):Bool:=decide ((97≤(c.toNat:Int)∧(c.toNat:Int)≤122)∨(48≤(c.toNat:Int)∧(c.toNat:Int)≤57)∨(c.toNat:Int)=46)
def My (s:Bs):Bool:=decide (1≤s.length∧s.length≤8)&&s.all Ab8
def Ci (fs:List Fil):Nat:=(fs.map (fun f=>f.b.length)).sum
theorem NH (fs:List Fil) (f:Fil):Ci (fs++[f])=Ci fs+f.b.length:=by simp[Ci]
theorem V7 (fs:List Fil) (i:Nat):Ci (fs.take i)≤Ci fs:=by
 have h:Ci fs=Ci (fs.take i)+Ci (fs.drop i):=by
  simp only[Ci]
  rw[←List.sum_append,←List.map_append,List.take_append_drop]
 omega
theorem QY (s:Bs) (h:My s=true):Ct Tryz.prog 137 [.t (.str s)] [] (.t (.bool true)) []:=by
 simp only[My,Bool.and_eq_true,decide_eq_true_eq]at h
 obtain⟨⟨h1,h2⟩,h3⟩:=h
 refine ct0 Ac Tryz.func137 J false J J ?_
 repeat'(first|refine Ae Ac J J J ?_|refine Ag ?_|refine Ah ?_|refine Ai Ac J J ?_|refine Al ?_)
 refine AM (ι:=Nat) (fun i=>i≤s.length) (fun i=>[(0,.t (.str s)),(3,.t (.int .i64 i))]) (fun i=>[]) (fun i=>s.length-i) 0 Z ?_ ?_
 ·exact AR [] (Ad J J (Ad J J Aq)) J
 rintro i hi
 by_cases hlt:i<s.length
 ·have hr:s[i]?=some s[i]:=List.getElem?_eq_getElem hlt
  have hc:=List.all_eq_true.1 h3 s[i] (List.getElem_mem hlt)
  generalize s[i]=c at hr hc
  simp only[Ab8,decide_eq_true_eq]at hc
  repeat'(first|refine Ae Ac J J J ?_|refine Ag ?_|refine Ah ?_|refine Ai Ac J J ?_|(refine AZ J J J J J (ht:=fun h=>?_) (hf:=fun h=>?_)<;>try exact prn)|(refine AP J J J J J (ht:=fun h=>?_) (hf:=fun h=>?_)<;>try exact prn)|refine Gz J J J J J ?_|(refine Af J (ht:=fun h=>?_) (hf:=fun h=>?_)<;>try exact prn)|refine Al ?_|refine Ao ?_|refine IJ Ac J J J J J J Aa J ?_)
  all_goals try(exfalso;omega)
  all_goals refine AF (i+1) hlt O [] (Ad J J (Ad J (by rw[A0 O O];rfl) Aq)) J
 ·repeat'(first|refine Ae Ac J J J ?_|refine Ag ?_|refine Ah ?_|refine Ai Ac J J ?_|(refine AZ J J J J J (ht:=fun h=>?_) (hf:=fun h=>?_)<;>try exact prn)|(refine Af J (ht:=fun h=>?_) (hf:=fun h=>?_)<;>try exact prn)|refine AB ?_|refine Ar ?_)
  all_goals try(exfalso;omega)
  all_goals first|exact Au J (Sub.of_eq J)|exact Au J (BJ (bT O).symm)
theorem QC (fs:List Fil) (hu:Ci fs≤1000000) (hl:fs.length≤1000000):Ct Tryz.prog 83 [.agg (Aj (CC fs))] [] (.t (.int .i64 (Ci fs:Int))) []:=by
 have hlm:(fs.map C3).length=fs.length:=List.length_map ..
 refine ct0 Ac Tryz.func83 J false J J ?_
 repeat'(first|refine Ae Ac J J J ?_|refine Ag ?_|refine Ah ?_|refine Ai Ac J J ?_|refine Al ?_)
 refine AM (ι:=Nat) (fun i=>i≤fs.length) (fun i=>[(1,.ref 2 0),(3,.t (.int .i64 (Ci (fs.take i):Int))),(4,.t (.int .i64 i))]) (fun i=>[(2,.cells (Aj (CC fs)))]) (fun i=>fs.length-i) 0 Z ?_ ?_
 ·exact AR [] (Ad J J (Ad J J (Ad J J Aq))) J
 rintro i hi
 by_cases hlt:i<fs.length
 ·have hr:fs[i]?=some fs[i]:=List.getElem?_eq_getElem hlt
  generalize fs[i]=r at hr
  have ht:=V7 fs (i+1)
  rw[AL hr,NH]at ht
  repeat'(first|refine Ae Ac J J J ?_|refine Ag ?_|refine Ah ?_|refine Ai Ac J J ?_|(refine Af J (ht:=fun h=>?_) (hf:=fun h=>?_)<;>try exact prn)|refine Al ?_|refine Ao ?_|refine AD Ac J J J J J J J (A2 Aa) J ?_)
  refine AF (i+1) hlt O [] (Ad J J (Ad J ?_ (Ad J (by rw[A0 O O];rfl) Aq))) J
  rw[AL hr,NH,A0 O O];simp
 ·repeat'(first|refine Ae Ac J J J ?_|refine Ag ?_|refine Ah ?_|refine Ai Ac J J ?_|(refine Af J (ht:=fun h=>?_) (hf:=fun h=>?_)<;>try exact prn)|refine AB ?_|refine Ar ?_)
  refine Au J (Sub.of_eq ?_)
  rw[List.take_of_length_le O]
structure DOk (fs:List Fil):Prop where
 len:fs.length≤64
 used:Ci fs≤65536
 ok: ∀f∈fs,My f.name=true∧f.b≠[]∧0≤f.sure∧f.sure≤(f.b.length:Int)
 srt:fs.Pairwise (fun a b=>C4 a.name b.name=true)
theorem WB (fs:List Fil) (hdo:DOk fs):Ct Tryz.prog 79 [.agg (Aj (CC fs))] [] (.t (.int .i64 0)) []:=by
 have hlm:(fs.map C3).length=fs.length:=List.length_map ..
 have h1:=hdo.len
 have h2:=hdo.used
 have cu:=QC fs O O
 refine ct0 Ac Tryz.func79 J false J J ?_
 repeat'(first|refine Ae Ac J J J ?_|refine Ag ?_|refine Ah ?_|refine Ai Ac J J ?_|(refine AP J J J J J (ht:=fun h=>?_) (hf:=fun h=>?_)<;>try exact prn)|(refine Af J (ht:=fun h=>?_) (hf:=fun h=>?_)<;>try exact prn)|refine Al ?_|refine Ao ?_|refine A9 (id:=1) (m:=19) Ac Y J J J J ?_|refine AA J J J J ?_|(refine Fi J J J J J (ht:=fun h=>?_) (hf:=fun h=>?_)<;>try exact prn)|refine AO J J J J J (cu) J J ?_)
 all_goals try(exfalso;omega)
 refine AM (ι:=Nat) (fun i=>i≤fs.length) (fun i=>[(1,.ref 2 0),(3,.t (.int .i64 i))]) (fun i=>[(2,.cells (Aj (CC fs)))]) (fun i=>fs.length-i) 0 Z ?_ ?_
 ·exact AR [] (Ad J J (Ad J J Aq)) J
 rintro i hi
 by_cases hlt:i<fs.length
 ·have hr:fs[i]?=some fs[i]:=List.getElem?_eq_getElem hlt
  obtain⟨q1,q2,q3,q4⟩:=hdo.ok fs[i] (List.getElem_mem hlt)
  have cn:=QY _ q1
  have hbl:fs[i].b.length≠0:=fun e=>q2 (List.eq_nil_of_length_eq_zero e)
  by_cases h0:i=0
  ·subst h0
   generalize fs[0]=r at hr cn q1 q2 q3 q4 hbl
   repeat'(first|refine An Ac J J J J J ?_|refine Ae Ac J J J ?_|refine Ag ?_|refine Ah ?_|refine Ai Ac J J ?_|(refine AZ J J J J J (ht:=fun h=>?_) (hf:=fun h=>?_)<;>try exact prn)|(refine AP J J J J J (ht:=fun h=>?_) (hf:=fun h=>?_)<;>try exact prn)|(refine Af J (ht:=fun h=>?_) (hf:=fun h=>?_)<;>try exact prn)|refine Al ?_|refine Ao ?_|refine AD Ac J J J J J J J (A2 Aa) J ?_|refine A9 (id:=7) (m:=36) Ac Y J J J J ?_|refine AA J J J J ?_|(refine EQ J J J J J (ht:=fun h=>?_) (hf:=fun h=>?_)<;>try exact prn)|(refine Fi J J J J J (ht:=fun h=>?_) (hf:=fun h=>?_)<;>try exact prn)|refine AO J J J J J (cn) J J ?_)
   all_goals try(exfalso;omega)
   all_goals refine AF (0+1) hlt O [4] (Ad J J (Ad J (by rw[A0 O O];rfl) Aq)) J
  ·have hr1:fs[i-1]?=some (fs[i-1]' O):=List.getElem?_eq_getElem _
   have hs:=List.pairwise_iff_getElem.1 hdo.srt (i-1) i O hlt O
   generalize fs[i-1]' O=r1 at hr1 hs
   generalize fs[i]=r at hr cn q1 q2 q3 q4 hbl hs
   have hw:IntKind.i64.wrap ((i:Int)-1)=((i-1:Nat):Int):=by rw[A0 O O];omega
   repeat'(first|refine An Ac J J J J J ?_|refine Ae Ac J J J ?_|refine Ag ?_|refine Ah ?_|refine Ai Ac J J ?_|(refine AZ J J J J J (ht:=fun h=>?_) (hf:=fun h=>?_)<;>try exact prn)|(refine AP J J J J J (ht:=fun h=>?_) (hf:=fun h=>?_)<;>try exact prn)|(refine Af J (ht:=fun h=>?_) (hf:=fun h=>?_)<;>try exact prn)|refine Al ?_|refine Ao ?_|refine AD Ac J J J J J J J (A2 Aa) J ?_|refine A9 (id:=7) (m:=36) Ac Y J J J J ?_|refine AA J J J J ?_|(refine EQ J J J J J (ht:=fun h=>?_) (hf:=fun h=>?_)<;>try exact prn)|(refine Fi J J J J J (ht:=fun h=>?_) (hf:=fun h=>?_)<;>try exact prn)|refine Hs J J J J J J J Aa (A2 Aa) J ?_|refine AO J J J J J (cn) J J ?_)
   all_goals try(exfalso;omega)
   all_goals try(exfalso;simp_all;done)
   all_goals refine AF (i+1) hlt O [4] (Ad J J (Ad J (by rw[A0 O O];rfl) Aq)) J
 ·repeat'(first|refine Ae Ac J J J ?_|refine Ag ?_|refine Ah ?_|refine Ai Ac J J ?_|(refine Af J (ht:=fun h=>?_) (hf:=fun h=>?_)<;>try exact prn)|refine AB ?_|refine Ar ?_)
  exact Au J (Sub.of_eq J)
def wOk (w:Wr):Prop:=My w.file=true∧((w.op=0∧w.b≠[]∧w.n=0)∨((w.op=1∨w.op=4)∧w.b=[]∧w.n=0))
theorem Aaq (w:Wr) (h:wOk w):Ct Tryz.prog 80 [.agg (Aj (BV w))] [] (.t (.bool true)) []:=by
 obtain⟨h1,h2⟩:=h
 have cn:=QY _ h1
 rcases w with⟨op,file,b,n⟩
 simp only at h1 h2 cn
 rcases h2 with⟨h2,h3,h4⟩|⟨h2,h3,h4⟩
 ·subst h2 h4
  have hbl:b.length≠0:=fun e=>h3 (List.eq_nil_of_length_eq_zero e)
  refine ct0 Ac Tryz.func80 J false J J ?_
  repeat'(first|refine Ae Ac J J J ?_|refine Ag ?_|refine Ah ?_|refine Ai Ac J J ?_|(refine AZ J J J J J (ht:=fun h=>?_) (hf:=fun h=>?_)<;>try exact prn)|(refine Af J (ht:=fun h=>?_) (hf:=fun h=>?_)<;>try exact prn)|refine Al ?_|refine Ao ?_|refine Ar ?_|refine Ak Ac J J J J J J J (cn) J J ?_)
  all_goals try(exfalso;omega)
  all_goals first|exact Au J (Sub.of_eq J)|exact Au J (BJ Z)|exact Au J (BJ (bT O).symm)
 ·subst h3 h4
  rcases h2 with h2|h2
  ·subst h2
   refine ct0 Ac Tryz.func80 J false J J ?_
   repeat'(first|refine Ae Ac J J J ?_|refine Ag ?_|refine Ah ?_|refine Ai Ac J J ?_|(refine AZ J J J J J (ht:=fun h=>?_) (hf:=fun h=>?_)<;>try exact prn)|(refine Af J (ht:=fun h=>?_) (hf:=fun h=>?_)<;>try exact prn)|refine Al ?_|refine Ao ?_|refine Ar ?_|refine Ak Ac J J J J J J J (cn) J J ?_)
   all_goals first|exact Au J (Sub.of_eq J)|exact Au J (BJ Z)|exact Au J (BJ (bT O).symm)
  ·subst h2
   refine ct0 Ac Tryz.func80 J false J J ?_
   repeat'(first|refine Ae Ac J J J ?_|refine Ag ?_|refine Ah ?_|refine Ai Ac J J ?_|(refine AZ J J J J J (ht:=fun h=>?_) (hf:=fun h=>?_)<;>try exact prn)|(refine Af J (ht:=fun h=>?_) (hf:=fun h=>?_)<;>try exact prn)|refine Al ?_|refine Ao ?_|refine Ar ?_|refine Ak Ac J J J J J J J (cn) J J ?_)
   all_goals first|exact Au J (Sub.of_eq J)|exact Au J (BJ Z)|exact Au J (BJ (bT O).symm)
def H8 (fs:List Fil) (name:Bs):Fil:=(fs.find? (fun f=>f.name==name)).getD Abl
def H7 (fs:List Fil) (name:Bs):Bool:=fs.any (fun f=>f.name==name)
theorem Xx {α:Type} {p:α→Bool}: ∀{l:List α} {i:Nat} {x:α},(l.take i).any p=false→l[i]?=some x→p x=true→l.find? p=some x∧l.any p=true
 |[],i,x,_,h,_=>by simp at h
 |a::r,0,x,_,h,hp=>by simp at h;subst h;simp[hp]
 |a::r,i+1,x,ht,h,hp=>by
  simp only[List.take_succ_cons,List.any_cons,Bool.or_eq_false_iff]at ht
  obtain⟨h1,h2⟩:=Xx ht.2 (by simpa using h) hp
  simp[ht.1,h1,h2]
theorem OD (fs:List Fil) (name:Bs) (hl:fs.length≤1000000):Ct Tryz.prog 81 [.agg (Aj (CC fs)),.t (.str name)] [] (.tuple [.agg (Aj (C3 (H8 fs name))),.t (.bool (H7 fs name))]) []:=by
 have hlm:(fs.map C3).length=fs.length:=List.length_map ..
 refine ct0 Ac Tryz.func81 J false J J ?_
 repeat'(first|refine Ae Ac J J J ?_|refine Ag ?_|refine Ah ?_|refine Ai Ac J J ?_|refine Al ?_)
 refine AM (ι:=Nat) (fun i=>i≤fs.length∧(fs.take i).any (fun f=>f.name==name)=false) (fun i=>[(1,.t (.str name)),(2,.ref 4 0),(4,.ref 8 0),(6,.t (.int .i64 i))]) (fun i=>[(8,.cells (Aj (C3 Abl))),(4,.cells (Aj (CC fs)))]) (fun i=>fs.length-i) 0 Z ?_ ?_
 ·exact AR [] (Ad J J (Ad J J (Ad J J (Ad J J Aq)))) J
 rintro i ⟨hi,hany⟩
 by_cases hlt:i<fs.length
 ·have hr:fs[i]?=some fs[i]:=List.getElem?_eq_getElem hlt
  generalize fs[i]=r at hr
  by_cases hn:r.name=name
  ·obtain⟨k1,k2⟩:=Xx (p:=fun f:Fil=>f.name==name) hany hr (by simpa using hn)
   have hb:(r.name==name)=true:=by simpa using hn
   have e1:H8 fs name=r:=by simp[H8,k1]
   have e2:H7 fs name=true:=k2
   rw[e1,e2]
   repeat'(first|refine An Ac J J J J J ?_|refine Ae Ac J J J ?_|refine Ag ?_|refine Ah ?_|refine Ai Ac J J ?_|(refine Af J (ht:=fun h=>?_) (hf:=fun h=>?_)<;>try exact prn)|refine Al ?_|refine Ao ?_|refine Ar ?_|refine AD Ac J J J J J J J (A2 Aa) J ?_)
   all_goals try(exfalso;simp_all;done)
   all_goals exact Au J (Sub.of_eq J)
  ·have hb:(r.name==name)=false:=by simpa using hn
   repeat'(first|refine Ae Ac J J J ?_|refine Ag ?_|refine Ah ?_|refine Ai Ac J J ?_|(refine Af J (ht:=fun h=>?_) (hf:=fun h=>?_)<;>try exact prn)|refine Al ?_|refine Ao ?_|refine AD Ac J J J J J J J (A2 Aa) J ?_)
   all_goals try(exfalso;simp_all;done)
   all_goals refine AF (i+1) ⟨hlt,Cd hr hany hb⟩ O [] (Ad J J (Ad J J (Ad J J (Ad J (by rw[A0 O O];rfl) Aq)))) J
 ·have hall:fs.any (fun f=>f.name==name)=false:=by rw[←hany,List.take_of_length_le O]
  have e1:H8 fs name=Abl:=by
   unfold H8
   rw[List.find?_eq_none.2 (fun x hx=>List.any_eq_false.1 hall x hx)]
   rfl
  have e2:H7 fs name=false:=hall
  rw[e1,e2]
  repeat'(first|refine An Ac J J J J J ?_|refine Ae Ac J J J ?_|refine Ag ?_|refine Ah ?_|refine Ai Ac J J ?_|(refine Af J (ht:=fun h=>?_) (hf:=fun h=>?_)<;>try exact prn)|refine AB ?_|refine Ar ?_)
  exact Au J (Sub.of_eq J)
def Cn (f:Fil) (s:List Fil×Bool) (x:Fil):List Fil×Bool:=
 ((if C4 x.name f.name=false∧s.2=false then(if f.b=[]then s.1 else s.1++[f])else s.1)++(if x.name=f.name then[]else[x]),s.2|| !C4 x.name f.name)
def GS (l:List Fil) (f:Fil):List Fil×Bool:=l.foldl (Cn f) ([],false)
def F7 (l:List Fil) (f:Fil):List Fil:=if(GS l f).2=false∧f.b≠[]then(GS l f).1++[f]else(GS l f).1
theorem NA (l:List Fil) (x f:Fil):GS (l++[x]) f=Cn f (GS l f) x:=by simp[GS]
theorem Mj (f:Fil): ∀(l:List Fil) (s:List Fil×Bool),(l.foldl (Cn f) s).1.length≤s.1.length+2*l.length
 |[],s=>by simp
 |x::r,s=>by
  have h:=Mj f r (Cn f s x)
  have h2:(Cn f s x).1.length≤s.1.length+2:=by
   simp only[Cn]
   split
   ·split<;>split<;>simp
   ·split<;>simp
  simp only[List.foldl_cons,List.length_cons]at h⊢
  omega
end Go.Proofs.YtpdmaenhenfofaaGreatDoor
namespace Go.Proofs.YtpdmaenhenfofaaGreatDoor
open Go.Am
attribute [local irreducible] Decidable.decide
set_option maxRecDepth 100000
set_option maxHeartbeats 1000000
theorem V5 (l:List Fil) (f:Fil) (hl:l.length≤1000) (hb:f.b=[]):Ct Tryz.prog 82 [.t (.slice .any 3 (l.map C3)),.agg (Aj (C3 f))] [] (.t (.slice .any 3 ((F7 l f).map C3))) []:=by
 have hlm:(l.map C3).length=l.length:=List.length_map ..
 have hbl:f.b.length=0:=by rw[hb];rfl
 refine ct0 Ac Tryz.func82 J false J J ?_
 repeat'(first|refine Ae Ac J J J ?_|refine Ag ?_|refine Ah ?_|refine Ai Ac J J ?_|refine Al ?_)
 refine Tr.nilRow 5 33 3 J J ?_
 refine AM (ι:=Nat×List Fil×Bool) (fun x=>x.1≤l.length∧GS (l.take x.1) f=x.2) (fun x=>[(0,.t (.slice .any 3 (l.map C3))),(3,.ref 6 0),(5,.row 66 3 0 (x.2.1.map C3).length),(6,.t (.bool x.2.2)),(7,.t (.int .i64 x.1))]) (fun x=>[(66,.grow 3 (x.2.1.map C3)),(6,.cells (Aj (C3 f)))]) (fun x=>l.length-x.1) (0,[],false) ⟨by simp,J⟩ ?_ ?_
 ·exact AR [] (Ad J J (Ad J J (Ad J J (Ad J J (Ad J J Aq))))) J
 rintro⟨i,out,done⟩ ⟨hi,hW⟩
 simp only at hi hW
 have hlen:=Mj f (l.take i) ([],false)
 rw[←GS,hW]at hlen
 simp only[List.length_nil,List.length_take]at hlen
 have hlo:(out.map C3).length=out.length:=List.length_map ..
 by_cases hlt:i<l.length
 ·have hr:l[i]?=some l[i]:=List.getElem?_eq_getElem hlt
  generalize l[i]=r at hr
  have hS:GS (l.take (i+1)) f=Cn f (out,done) r:=by rw[AL hr,NA,hW]
  by_cases hn:r.name=f.name
  ·have hne:(r.name==f.name)=true:=by simp[hn]
   cases ha:C4 r.name f.name
   ·cases done
    ·repeat'(first|refine Ae Ac J J J ?_|refine Ag ?_|refine Ah ?_|refine Ai Ac J J ?_|(refine AZ J J J J J (ht:=fun h=>?_) (hf:=fun h=>?_)<;>try exact prn)|(refine Af J (ht:=fun h=>?_) (hf:=fun h=>?_)<;>try exact prn)|refine Al ?_|refine Ao ?_|refine A9 (id:=6) (m:=7) Ac Y J J J J ?_|refine A9 (id:=10) (m:=7) Ac Y J J J J ?_|refine AA J J J J ?_|refine Bz J J J J J J J (A2 Aa) J ?_)
     all_goals try(exfalso;omega)
     all_goals try(exfalso;simp_all;done)
     all_goals refine AF (i+1,(out),true) ⟨hlt,by rw[hS];first|(simp[Cn,ha,hb,hn];done)|(rw[hn]at ha;simp[Cn,ha,hb,hn];done)⟩ (by simp;omega) [] (Ad J J (Ad J J (Ad J ?_ (Ad J J (Ad J (by rw[A0 O O];rfl) Aq))))) ?_
     all_goals simp only[List.map_append]
     all_goals rfl
    ·repeat'(first|refine Ae Ac J J J ?_|refine Ag ?_|refine Ah ?_|refine Ai Ac J J ?_|(refine AZ J J J J J (ht:=fun h=>?_) (hf:=fun h=>?_)<;>try exact prn)|(refine Af J (ht:=fun h=>?_) (hf:=fun h=>?_)<;>try exact prn)|refine Al ?_|refine Ao ?_|refine A9 (id:=6) (m:=7) Ac Y J J J J ?_|refine A9 (id:=10) (m:=7) Ac Y J J J J ?_|refine AA J J J J ?_|refine Bz J J J J J J J (A2 Aa) J ?_)
     all_goals try(exfalso;omega)
     all_goals try(exfalso;simp_all;done)
     all_goals refine AF (i+1,(out),true) ⟨hlt,by rw[hS];first|(simp[Cn,ha,hb,hn];done)|(rw[hn]at ha;simp[Cn,ha,hb,hn];done)⟩ (by simp;omega) [] (Ad J J (Ad J J (Ad J ?_ (Ad J J (Ad J (by rw[A0 O O];rfl) Aq))))) ?_
     all_goals simp only[List.map_append]
     all_goals rfl
   ·repeat'(first|refine Ae Ac J J J ?_|refine Ag ?_|refine Ah ?_|refine Ai Ac J J ?_|(refine AZ J J J J J (ht:=fun h=>?_) (hf:=fun h=>?_)<;>try exact prn)|(refine Af J (ht:=fun h=>?_) (hf:=fun h=>?_)<;>try exact prn)|refine Al ?_|refine Ao ?_|refine A9 (id:=6) (m:=7) Ac Y J J J J ?_|refine A9 (id:=10) (m:=7) Ac Y J J J J ?_|refine AA J J J J ?_|refine Bz J J J J J J J (A2 Aa) J ?_)
    all_goals try(exfalso;omega)
    all_goals try(exfalso;simp_all;done)
    all_goals refine AF (i+1,(out),done) ⟨hlt,by rw[hS];first|(simp[Cn,ha,hb,hn];done)|(rw[hn]at ha;simp[Cn,ha,hb,hn];done)⟩ (by simp;omega) [] (Ad J J (Ad J J (Ad J ?_ (Ad J J (Ad J (by rw[A0 O O];rfl) Aq))))) ?_
    all_goals simp only[List.map_append]
    all_goals rfl
  ·have hne:(r.name==f.name)=false:=by simp[hn]
   cases ha:C4 r.name f.name
   ·cases done
    ·repeat'(first|refine An Ac J J J J J ?_|refine Ae Ac J J J ?_|refine Ag ?_|refine Ah ?_|refine Ai Ac J J ?_|(refine AZ J J J J J (ht:=fun h=>?_) (hf:=fun h=>?_)<;>try exact prn)|(refine Af J (ht:=fun h=>?_) (hf:=fun h=>?_)<;>try exact prn)|refine Al ?_|refine Ao ?_|refine AD Ac J J J J J J J (A2 Aa) J ?_|refine AN Ac J J J J J J J J J J J J J J (by simp[AW];omega) ?_|refine A9 (id:=6) (m:=7) Ac Y J J J J ?_|refine A9 (id:=10) (m:=7) Ac Y J J J J ?_|refine AA J J J J ?_|refine Bz J J J J J J J (A2 Aa) J ?_)
     all_goals try(exfalso;omega)
     all_goals try(exfalso;simp_all;done)
     all_goals refine AF (i+1,(out++[r]),true) ⟨hlt,by rw[hS];first|(simp[Cn,ha,hb,hn];done)|(rw[hn]at ha;simp[Cn,ha,hb,hn];done)⟩ (by simp;omega) [] (Ad J J (Ad J J (Ad J ?_ (Ad J J (Ad J (by rw[A0 O O];rfl) Aq))))) ?_
     all_goals simp only[List.map_append]
     all_goals rfl
    ·repeat'(first|refine An Ac J J J J J ?_|refine Ae Ac J J J ?_|refine Ag ?_|refine Ah ?_|refine Ai Ac J J ?_|(refine AZ J J J J J (ht:=fun h=>?_) (hf:=fun h=>?_)<;>try exact prn)|(refine Af J (ht:=fun h=>?_) (hf:=fun h=>?_)<;>try exact prn)|refine Al ?_|refine Ao ?_|refine AD Ac J J J J J J J (A2 Aa) J ?_|refine AN Ac J J J J J J J J J J J J J J (by simp[AW];omega) ?_|refine A9 (id:=6) (m:=7) Ac Y J J J J ?_|refine A9 (id:=10) (m:=7) Ac Y J J J J ?_|refine AA J J J J ?_|refine Bz J J J J J J J (A2 Aa) J ?_)
     all_goals try(exfalso;omega)
     all_goals try(exfalso;simp_all;done)
     all_goals refine AF (i+1,(out++[r]),true) ⟨hlt,by rw[hS];first|(simp[Cn,ha,hb,hn];done)|(rw[hn]at ha;simp[Cn,ha,hb,hn];done)⟩ (by simp;omega) [] (Ad J J (Ad J J (Ad J ?_ (Ad J J (Ad J (by rw[A0 O O];rfl) Aq))))) ?_
     all_goals simp only[List.map_append]
     all_goals rfl
   ·repeat'(first|refine An Ac J J J J J ?_|refine Ae Ac J J J ?_|refine Ag ?_|refine Ah ?_|refine Ai Ac J J ?_|(refine AZ J J J J J (ht:=fun h=>?_) (hf:=fun h=>?_)<;>try exact prn)|(refine Af J (ht:=fun h=>?_) (hf:=fun h=>?_)<;>try exact prn)|refine Al ?_|refine Ao ?_|refine AD Ac J J J J J J J (A2 Aa) J ?_|refine AN Ac J J J J J J J J J J J J J J (by simp[AW];omega) ?_|refine A9 (id:=6) (m:=7) Ac Y J J J J ?_|refine A9 (id:=10) (m:=7) Ac Y J J J J ?_|refine AA J J J J ?_|refine Bz J J J J J J J (A2 Aa) J ?_)
    all_goals try(exfalso;omega)
    all_goals try(exfalso;simp_all;done)
    all_goals refine AF (i+1,(out++[r]),done) ⟨hlt,by rw[hS];first|(simp[Cn,ha,hb,hn];done)|(rw[hn]at ha;simp[Cn,ha,hb,hn];done)⟩ (by simp;omega) [] (Ad J J (Ad J J (Ad J ?_ (Ad J J (Ad J (by rw[A0 O O];rfl) Aq))))) ?_
    all_goals simp only[List.map_append]
    all_goals rfl
 ·have hin:l.take i=l:=List.take_of_length_le O
  rw[hin]at hW
  cases done
  ·have hR:F7 l f=out:=by simp[F7,hW,hb]
   rw[hR]
   repeat'(first|refine Ae Ac J J J ?_|refine Ag ?_|refine Ah ?_|refine Ai Ac J J ?_|(refine AZ J J J J J (ht:=fun h=>?_) (hf:=fun h=>?_)<;>try exact prn)|(refine Af J (ht:=fun h=>?_) (hf:=fun h=>?_)<;>try exact prn)|refine Ao ?_|refine AB ?_|refine Ar ?_)
   all_goals try(exfalso;omega)
   all_goals refine Au J (Sub.of_eq ?_)
   all_goals simp[BA]
   all_goals try exact List.take_of_length_le Z
  ·have hR:F7 l f=out:=by simp[F7,hW]
   rw[hR]
   repeat'(first|refine Ae Ac J J J ?_|refine Ag ?_|refine Ah ?_|refine Ai Ac J J ?_|(refine AZ J J J J J (ht:=fun h=>?_) (hf:=fun h=>?_)<;>try exact prn)|(refine Af J (ht:=fun h=>?_) (hf:=fun h=>?_)<;>try exact prn)|refine Ao ?_|refine AB ?_|refine Ar ?_)
   all_goals try(exfalso;omega)
   all_goals refine Au J (Sub.of_eq ?_)
   all_goals simp[BA]
   all_goals try exact List.take_of_length_le Z
theorem SL (l:List Fil) (f:Fil) (hl:l.length≤1000) (hb:f.b≠[]):Ct Tryz.prog 82 [.t (.slice .any 3 (l.map C3)),.agg (Aj (C3 f))] [] (.t (.slice .any 3 ((F7 l f).map C3))) []:=by
 have hlm:(l.map C3).length=l.length:=List.length_map ..
 have hbl:0<f.b.length:=List.length_pos_iff.2 hb
 refine ct0 Ac Tryz.func82 J false J J ?_
 repeat'(first|refine Ae Ac J J J ?_|refine Ag ?_|refine Ah ?_|refine Ai Ac J J ?_|refine Al ?_)
 refine Tr.nilRow 5 33 3 J J ?_
 refine AM (ι:=Nat×List Fil×Bool) (fun x=>x.1≤l.length∧GS (l.take x.1) f=x.2) (fun x=>[(0,.t (.slice .any 3 (l.map C3))),(3,.ref 6 0),(5,.row 66 3 0 (x.2.1.map C3).length),(6,.t (.bool x.2.2)),(7,.t (.int .i64 x.1))]) (fun x=>[(66,.grow 3 (x.2.1.map C3)),(6,.cells (Aj (C3 f)))]) (fun x=>l.length-x.1) (0,[],false) ⟨by simp,J⟩ ?_ ?_
 ·exact AR [] (Ad J J (Ad J J (Ad J J (Ad J J (Ad J J Aq))))) J
 rintro⟨i,out,done⟩ ⟨hi,hW⟩
 simp only at hi hW
 have hlen:=Mj f (l.take i) ([],false)
 rw[←GS,hW]at hlen
 simp only[List.length_nil,List.length_take]at hlen
 have hlo:(out.map C3).length=out.length:=List.length_map ..
 by_cases hlt:i<l.length
 ·have hr:l[i]?=some l[i]:=List.getElem?_eq_getElem hlt
  generalize l[i]=r at hr
  have hS:GS (l.take (i+1)) f=Cn f (out,done) r:=by rw[AL hr,NA,hW]
  by_cases hn:r.name=f.name
  ·have hne:(r.name==f.name)=true:=by simp[hn]
   cases ha:C4 r.name f.name
   ·cases done
    ·repeat'(first|refine An Ac J J J J J ?_|refine Ae Ac J J J ?_|refine Ag ?_|refine Ah ?_|refine Ai Ac J J ?_|(refine AZ J J J J J (ht:=fun h=>?_) (hf:=fun h=>?_)<;>try exact prn)|(refine Af J (ht:=fun h=>?_) (hf:=fun h=>?_)<;>try exact prn)|refine Al ?_|refine Ao ?_|refine AN Ac J J J J J J J J J J J J J J (by simp[AW];omega) ?_|refine A9 (id:=6) (m:=7) Ac Y J J J J ?_|refine A9 (id:=10) (m:=7) Ac Y J J J J ?_|refine AA J J J J ?_|refine Bz J J J J J J J (A2 Aa) J ?_)
     all_goals try(exfalso;omega)
     all_goals try(exfalso;simp_all;done)
     all_goals refine AF (i+1,(out++[f]),true) ⟨hlt,by rw[hS];first|(simp[Cn,ha,hb,hn];done)|(rw[hn]at ha;simp[Cn,ha,hb,hn];done)⟩ (by simp;omega) [] (Ad J J (Ad J J (Ad J ?_ (Ad J J (Ad J (by rw[A0 O O];rfl) Aq))))) ?_
     all_goals simp only[List.map_append]
     all_goals rfl
    ·repeat'(first|refine Ae Ac J J J ?_|refine Ag ?_|refine Ah ?_|refine Ai Ac J J ?_|(refine AZ J J J J J (ht:=fun h=>?_) (hf:=fun h=>?_)<;>try exact prn)|(refine Af J (ht:=fun h=>?_) (hf:=fun h=>?_)<;>try exact prn)|refine Al ?_|refine Ao ?_|refine A9 (id:=6) (m:=7) Ac Y J J J J ?_|refine A9 (id:=10) (m:=7) Ac Y J J J J ?_|refine AA J J J J ?_|refine Bz J J J J J J J (A2 Aa) J ?_)
     all_goals try(exfalso;omega)
     all_goals try(exfalso;simp_all;done)
     all_goals refine AF (i+1,(out),true) ⟨hlt,by rw[hS];first|(simp[Cn,ha,hb,hn];done)|(rw[hn]at ha;simp[Cn,ha,hb,hn];done)⟩ (by simp;omega) [] (Ad J J (Ad J J (Ad J ?_ (Ad J J (Ad J (by rw[A0 O O];rfl) Aq))))) ?_
     all_goals simp only[List.map_append]
     all_goals rfl
   ·repeat'(first|refine Ae Ac J J J ?_|refine Ag ?_|refine Ah ?_|refine Ai Ac J J ?_|(refine AZ J J J J J (ht:=fun h=>?_) (hf:=fun h=>?_)<;>try exact prn)|(refine Af J (ht:=fun h=>?_) (hf:=fun h=>?_)<;>try exact prn)|refine Al ?_|refine Ao ?_|refine A9 (id:=6) (m:=7) Ac Y J J J J ?_|refine A9 (id:=10) (m:=7) Ac Y J J J J ?_|refine AA J J J J ?_|refine Bz J J J J J J J (A2 Aa) J ?_)
    all_goals try(exfalso;omega)
    all_goals try(exfalso;simp_all;done)
    all_goals refine AF (i+1,(out),done) ⟨hlt,by rw[hS];first|(simp[Cn,ha,hb,hn];done)|(rw[hn]at ha;simp[Cn,ha,hb,hn];done)⟩ (by simp;omega) [] (Ad J J (Ad J J (Ad J ?_ (Ad J J (Ad J (by rw[A0 O O];rfl) Aq))))) ?_
    all_goals simp only[List.map_append]
    all_goals rfl
  ·have hne:(r.name==f.name)=false:=by simp[hn]
   cases ha:C4 r.name f.name
   ·cases done
    ·repeat'(first|refine An Ac J J J J J ?_|refine Ae Ac J J J ?_|refine Ag ?_|refine Ah ?_|refine Ai Ac J J ?_|(refine AZ J J J J J (ht:=fun h=>?_) (hf:=fun h=>?_)<;>try exact prn)|(refine Af J (ht:=fun h=>?_) (hf:=fun h=>?_)<;>try exact prn)|refine Al ?_|refine Ao ?_|refine AD Ac J J J J J J J (A2 Aa) J ?_|refine AN Ac J J J J J J J J J J J J J J (by simp[AW];omega) ?_|refine A9 (id:=6) (m:=7) Ac Y J J J J ?_|refine A9 (id:=10) (m:=7) Ac Y J J J J ?_|refine AA J J J J ?_|refine Bz J J J J J J J (A2 Aa) J ?_)
     all_goals try(exfalso;omega)
     all_goals try(exfalso;simp_all;done)
     all_goals refine AF (i+1,(out++[f]++[r]),true) ⟨hlt,by rw[hS];first|(simp[Cn,ha,hb,hn];done)|(rw[hn]at ha;simp[Cn,ha,hb,hn];done)⟩ (by simp;omega) [] (Ad J J (Ad J J (Ad J ?_ (Ad J J (Ad J (by rw[A0 O O];rfl) Aq))))) ?_
     all_goals simp only[List.map_append]
     all_goals rfl
    ·repeat'(first|refine An Ac J J J J J ?_|refine Ae Ac J J J ?_|refine Ag ?_|refine Ah ?_|refine Ai Ac J J ?_|(refine AZ J J J J J (ht:=fun h=>?_) (hf:=fun h=>?_)<;>try exact prn)|(refine Af J (ht:=fun h=>?_) (hf:=fun h=>?_)<;>try exact prn)|refine Al ?_|refine Ao ?_|refine AD Ac J J J J J J J (A2 Aa) J ?_|refine AN Ac J J J J J J J J J J J J J J (by simp[AW];omega) ?_|refine A9 (id:=6) (m:=7) Ac Y J J J J ?_|refine A9 (id:=10) (m:=7) Ac Y J J J J ?_|refine AA J J J J ?_|refine Bz J J J J J J J (A2 Aa) J ?_)
     all_goals try(exfalso;omega)
     all_goals try(exfalso;simp_all;done)
     all_goals refine AF (i+1,(out++[r]),true) ⟨hlt,by rw[hS];first|(simp[Cn,ha,hb,hn];done)|(rw[hn]at ha;simp[Cn,ha,hb,hn];done)⟩ (by simp;omega) [] (Ad J J (Ad J J (Ad J ?_ (Ad J J (Ad J (by rw[A0 O O];rfl) Aq))))) ?_
     all_goals simp only[List.map_append]
     all_goals rfl
   ·repeat'(first|refine An Ac J J J J J ?_|refine Ae Ac J J J ?_|refine Ag ?_|refine Ah ?_|refine Ai Ac J J ?_|(refine AZ J J J J J (ht:=fun h=>?_) (hf:=fun h=>?_)<;>try exact prn)|(refine Af J (ht:=fun h=>?_) (hf:=fun h=>?_)<;>try exact prn)|refine Al ?_|refine Ao ?_|refine AD Ac J J J J J J J (A2 Aa) J ?_|refine AN Ac J J J J J J J J J J J J J J (by simp[AW];omega) ?_|refine A9 (id:=6) (m:=7) Ac Y J J J J ?_|refine A9 (id:=10) (m:=7) Ac Y J J J J ?_|refine AA J J J J ?_|refine Bz J J J J J J J (A2 Aa) J ?_)
    all_goals try(exfalso;omega)
    all_goals try(exfalso;simp_all;done)
    all_goals refine AF (i+1,(out++[r]),done) ⟨hlt,by rw[hS];first|(simp[Cn,ha,hb,hn];done)|(rw[hn]at ha;simp[Cn,ha,hb,hn];done)⟩ (by simp;omega) [] (Ad J J (Ad J J (Ad J ?_ (Ad J J (Ad J (by rw[A0 O O];rfl) Aq))))) ?_
    all_goals simp only[List.map_append]
    all_goals rfl
 ·have hin:l.take i=l:=List.take_of_length_le O
  rw[hin]at hW
  cases done
  ·have hR:F7 l f=out++[f]:=by simp[F7,hW,hb]
   rw[hR]
   repeat'(first|refine An Ac J J J J J ?_|refine Ae Ac J J J ?_|refine Ag ?_|refine Ah ?_|refine Ai Ac J J ?_|(refine AZ J J J J J (ht:=fun h=>?_) (hf:=fun h=>?_)<;>try exact prn)|(refine Af J (ht:=fun h=>?_) (hf:=fun h=>?_)<;>try exact prn)|refine AB ?_|refine Ar ?_|refine AN Ac J J J J J J J J J J J J J J (by simp[AW];omega) ?_)
   all_goals try(exfalso;omega)
   all_goals refine Au J (Sub.of_eq ?_)
   all_goals simp[BA]
   all_goals try exact List.take_of_length_le Z
  ·have hR:F7 l f=out:=by simp[F7,hW]
   rw[hR]
   repeat'(first|refine Ae Ac J J J ?_|refine Ag ?_|refine Ah ?_|refine Ai Ac J J ?_|(refine AZ J J J J J (ht:=fun h=>?_) (hf:=fun h=>?_)<;>try exact prn)|(refine Af J (ht:=fun h=>?_) (hf:=fun h=>?_)<;>try exact prn)|refine Ao ?_|refine AB ?_|refine Ar ?_)
   all_goals try(exfalso;omega)
   all_goals refine Au J (Sub.of_eq ?_)
   all_goals simp[BA]
   all_goals try exact List.take_of_length_le Z
theorem X7 (l:List Fil) (f:Fil) (hl:l.length≤1000):Ct Tryz.prog 82 [.t (.slice .any 3 (l.map C3)),.agg (Aj (C3 f))] [] (.t (.slice .any 3 ((F7 l f).map C3))) []:=by
 by_cases hb:f.b=[]
 ·exact V5 l f hl hb
 ·exact SL l f hl hb
end Go.Proofs.YtpdmaenhenfofaaGreatDoor
namespace Go.Proofs.YtpdmaenhenfofaaGreatDoor
open Go.Am
attribute [local irreducible] Decidable.decide
set_option maxRecDepth 100000
set_option maxHeartbeats 1000000
def Wb (fs:List Fil) (w:Wr):Fil:=
 if w.op=0 then⟨w.file,(H8 fs w.file).b++w.b,(H8 fs w.file).sure⟩
 else if w.op=1 then⟨w.file,(H8 fs w.file).b,(H8 fs w.file).b.length⟩
 else⟨w.file,[],0⟩
def doF (fs:List Fil) (w:Wr):List Fil:=F7 fs (Wb fs w)
structure WOk (fs:List Fil) (w:Wr):Prop where
 ok:wOk w
 has:w.op≠0→H7 fs w.file=true
 len:(doF fs w).length≤64
 used:Ci (doF fs w)≤1000000
 wb:w.b.length≤1000000
 got:(H8 fs w.file).b.length≤1000000
def doR (fs:List Fil) (w:Wr):AV:=if Ci (doF fs w)≤65536 then .tuple [.agg (Aj (CC (doF fs w))),.t (.int .i64 0)]else .tuple [.agg (Aj XG.zero),.t (.int .i64 31)]
theorem Aet (fs:List Fil) (w:Wr) (h:DOk fs) (hw:WOk fs w):Ct Tryz.prog 45 [.agg (Aj (CC fs)),.agg (Aj (BV w))] [] (doR fs w) []:=by
 have h1:=h.len
 have h2:=h.used
 have cc:=WB fs h
 have cm:=Aaq w hw.ok
 have cg:=OD fs w.file O
 have cw:=X7 fs (Wb fs w) O
 have cu:=QC (doF fs w) hw.used (by have:=hw.len;omega)
 have hlm:((doF fs w).map C3).length=(doF fs w).length:=List.length_map ..
 have hl64:=hw.len
 have hwb:=hw.wb
 have hgb:=hw.got
 have hhas:=hw.has
 have hsum:(H8 fs w.file).b.length+w.b.length<9223372036854775808:=by omega
 have hop:=hw.ok.2
 unfold doR
 unfold doF at*
 by_cases hz:Ci (F7 fs (Wb fs w))≤65536
 all_goals(first|rw[if_pos hz]|rw[if_neg hz])
 all_goals generalize hD:F7 fs (Wb fs w)=D at*
 all_goals generalize hG:H8 fs w.file=G at*
 all_goals rcases w with⟨op,file,b,n⟩
 all_goals simp only at*
 all_goals rcases hop with⟨e1,e2,e3⟩|⟨e1|e1,e2,e3⟩
 all_goals subst e1
 all_goals try subst e2
 all_goals subst e3
 all_goals simp only[Wb,hG,if_true,if_false,reduceCtorEq,Int.reduceEq,ne_eq,not_true_eq_false,not_false_eq_true,forall_const,false_implies]at cw hhas
 all_goals try rw[hhas]at cg
 all_goals refine ct0 Ac Tryz.func45 J false J J ?_
 all_goals repeat'(first|refine An Ac J J J J J ?_|refine Ae Ac J J J ?_|refine Ag ?_|refine Ah ?_|refine Ai Ac J J ?_|(refine AZ J J J J J (ht:=fun h=>?_) (hf:=fun h=>?_)<;>try exact prn)|(refine AP J J J J J (ht:=fun h=>?_) (hf:=fun h=>?_)<;>try exact prn)|refine Gz J J J J J ?_|(refine Af J (ht:=fun h=>?_) (hf:=fun h=>?_)<;>try exact prn)|refine Al ?_|refine Ao ?_|refine Ar ?_|refine A9 (id:=32) (m:=4) Ac Y J J J J ?_|refine AA J J J J ?_|refine Ak Ac J J J J J J J (cc) J J ?_|refine Ak Ac J J J J J J J (cm) J J ?_|refine Ak Ac J J J J J J J (cg) J J ?_|refine Ak Ac J J J J J J J (cw) J J ?_|refine AO J J J J J (cu) J J ?_|refine Zw Ac J J J J J hsum ?_)
 all_goals try(exfalso;omega)
 all_goals try exact Au J (Sub.of_eq J)
 all_goals trace_state
end Go.Proofs.YtpdmaenhenfofaaGreatDoor
namespace Go.Proofs.YtpdmaenhenfofaaGreatDoor
open Go.Am
attribute [local irreducible] Decidable.decide
set_option maxRecDepth 100000
set_option maxHeartbeats 1000000
def Ht:List Fil→List Wr→List Fil×Option Wr
 |fs,[]=>(fs,none)
 |fs,w::r=>if Ci (doF fs w)≤65536 then Ht (doF fs w) r else(fs,some w)
def PD:List Fil→List Wr→Prop
 |_,[]=>True
 |fs,w::r=>DOk fs∧WOk fs w∧(Ci (doF fs w)≤65536→PD (doF fs w) r)
def ZC (r:List Fil×Option Wr):AV:=match r.2 with
 |none=>.tuple [.agg (Aj (CC r.1)),.t (.int .i8 0),.t (.str []),.t (.int .i64 0)]
 |some w=>.tuple [.agg (Aj (CC r.1)),.t (.int .i8 w.op),.t (.str w.file),.t (.int .i64 31)]
theorem Aes (fs:List Fil) (l:List Wr) (h:PD fs l) (hl:l.length≤1000000):Ct Tryz.prog 26 [.agg (Aj (CC fs)),.t (.slice .any 4 (l.map BV))] [] (ZC (Ht fs l)) []:=by
 have hlm:(l.map BV).length=l.length:=List.length_map ..
 have hfree:(ZC (Ht fs l)).free=true:=by unfold ZC;split<;>rfl
 refine ct0 Ac Tryz.func26 J false J hfree ?_
 repeat'(first|refine Ae Ac J J J ?_|refine Ag ?_|refine Ah ?_|refine Ai Ac J J ?_|refine Al ?_)
 refine AM (ι:=Nat×List Fil) (fun x=>x.1≤l.length∧PD x.2 (l.drop x.1)∧Ht x.2 (l.drop x.1)=Ht fs l) (fun x=>[(1,.t (.slice .any 4 (l.map BV))),(2,.ref 4 0),(4,.ref 8 0),(8,.t (.int .i64 x.1))]) (fun x=>[(8,.cells (Aj XG.zero)),(4,.cells (Aj (CC x.2)))]) (fun x=>l.length-x.1) (0,fs) ⟨by simp,h,J⟩ ?_ ?_
 ·exact AR [] (Ad J J (Ad J J (Ad J J (Ad J J Aq)))) J
 rintro⟨i,gs⟩ ⟨hi,hR,hrun⟩
 simp only at hi hR hrun
 by_cases hlt:i<l.length
 ·have hr:l[i]?=some l[i]:=List.getElem?_eq_getElem hlt
  generalize l[i]=w at hr
  have hd:=BE hr
  rw[hd]at hR hrun
  obtain⟨h1,h2,h3⟩:=hR
  have cd:=Aet gs w h1 h2
  unfold doR at cd
  by_cases hu:Ci (doF gs w)≤65536
  ·rw[if_pos hu]at cd
   have hrun2:Ht (doF gs w) (l.drop (i+1))=Ht fs l:=by rw[←hrun];simp only[Ht];rw[if_pos hu]
   have hR2:=h3 hu
   generalize doF gs w=hs at*
   repeat'(first|refine An Ac J J J J J ?_|refine Ae Ac J J J ?_|refine Ag ?_|refine Ah ?_|refine Ai Ac J J ?_|(refine AZ J J J J J (ht:=fun h=>?_) (hf:=fun h=>?_)<;>try exact prn)|(refine Af J (ht:=fun h=>?_) (hf:=fun h=>?_)<;>try exact prn)|refine Al ?_|refine Ao ?_|refine AA J J J J ?_|refine CY ?_|refine Bz J J J J J J J (A2 Aa) J ?_|refine J4 Ac 10 9 (id:=4) (m:=11) (x0:=.agg (Aj (CC hs))) (ys:=Aj (CC hs)) Y J J J J J J J J J J Y Y J J J J J Y ?_ J|refine⟨J,J,?_⟩|refine AO J J J J J (cd) J J ?_)
   all_goals try(exfalso;omega)
   all_goals refine AF (i+1,hs) ⟨hlt,hR2,hrun2⟩ (by simp;omega) [9] (Ad J J (Ad J J (Ad J J (Ad J (by rw[A0 O O];rfl) Aq)))) J
  ·rw[if_neg hu]at cd
   have hrun2:Ht fs l=(gs,some w):=by rw[←hrun];simp only[Ht];rw[if_neg hu]
   rw[hrun2]
   repeat'(first|refine Ae Ac J J J ?_|refine Ag ?_|refine Ah ?_|refine Ai Ac J J ?_|(refine AZ J J J J J (ht:=fun h=>?_) (hf:=fun h=>?_)<;>try exact prn)|(refine Af J (ht:=fun h=>?_) (hf:=fun h=>?_)<;>try exact prn)|refine Al ?_|refine Ao ?_|refine AA J J J J ?_|refine CY ?_|refine Bz J J J J J J J (A2 Aa) J ?_|refine J4 Ac 10 9 (id:=4) (m:=11) (x0:=.agg (Aj XG.zero)) (ys:=Aj XG.zero) Y J J J J J J J J J J Y Y J J J J J Y ?_ J|refine Acz Ac 12 (id:=8) (m:=15) (x0:=.agg (Aj (CC gs))) (ys:=Aj (CC gs)) (lab:=8) (off:=0) Y J J J J J J J Y J J J J Y ?_ J|refine⟨J,J,?_⟩|refine AO J J J J J (cd) J J ?_)
   all_goals try(exfalso;omega)
   all_goals refine Ar ?_
   all_goals exact Au J (Sub.of_eq J)
 ·have hin:i=l.length:=by omega
  subst hin
  rw[List.drop_length]at hrun
  rw[←hrun]
  repeat'(first|refine An Ac J J J J J ?_|refine Ae Ac J J J ?_|refine Ag ?_|refine Ah ?_|refine Ai Ac J J ?_|(refine Af J (ht:=fun h=>?_) (hf:=fun h=>?_)<;>try exact prn)|refine AB ?_|refine Ar ?_)
  all_goals exact Au J (Sub.of_eq J)
end Go.Proofs.YtpdmaenhenfofaaGreatDoor
