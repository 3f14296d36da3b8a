/- Contracts and laws, joined: Pr, Ps, Cg. No condition beside those that each theorem names. -/
import Derived.Test.YthjoclecnacdiaaGreatDoorZJ5
import Derived.Test.YthjoclecnacdiaaGreatDoorZD1
import Derived.Test.YthjoclecnacdiaaGreatDoorZT1
import Derived.Test.YthjoclecnacdiaaGreatDoorZM6
import Derived.Test.YthjoclecnacdiaaGreatDoorZKn
set_option linter.unusedVariables false
set_option linter.unusedSimpArgs false
namespace Go.Proofs.YthjoclecnacdiaaGreatDoor
open Go.Am
attribute [local irreducible] Decidable.decide
set_option maxRecDepth 100000
set_option maxHeartbeats 1000000
def JB (b:Batch):Int:=b.seq+b.recs.length
def EV (pid epoch:Int):Int→List Batch→Bool
 |_,[]=>true
 |next,b::r=>B3 b&&b.txn&&decide (b.pid=pid)&&decide (b.epoch=epoch)&&decide (b.seq=next)&&EV pid epoch (JB b) r
def P0:List Batch→Int
 |[]=>0
 |b::_=>b.seq
def OU:List Batch→Int
 |[]=>0
 |[b]=>JB b
 |_::r=>OU r
def Ma (o:Opn):Bool:=decide (1≤o.batches.length∧o.batches.length≤8)&&EV o.pid o.epoch (P0 o.batches) o.batches
def Gy (o:Opn) (i:Nat) (b:Batch):Entry:=if i+1=o.batches.length then⟨3,b,true,OU o.batches,0,Aa7,X6⟩else⟨3,b,false,0,0,Aa7,X6⟩
def J3 (o:Opn):List Entry:=o.batches.mapIdx (Gy o)
theorem Iw {b:Batch} (h:B3 b=true):0≤b.seq∧b.seq+b.recs.length≤1048576∧1≤b.recs.length∧b.recs.length≤4:=by
 simp only[B3,Bool.and_eq_true,decide_eq_true_eq]at h
 have h:=h.1
 unfold CX at h;omega
theorem Lw (b:Batch) (hb:B3 b=true):Ct Tryz.prog 92 [.agg (AA (Bj b))] [] (.t (.int .i64 (JB b))) []:=by
 have h:=Iw hb
 refine ct0 Ab Tryz.func92 J false J J ?_
 repeat'(first|refine Ak Ab J J J J J ?_|refine Ap Ab J J J ?_|refine A0 ?_|refine A9 ?_|refine Aw Ab J J ?_|(refine A1 J J J J J (ht:=fun h=>?_) (hf:=fun h=>?_)<;>try exact prn)|(refine A2 J J J J J (ht:=fun h=>?_) (hf:=fun h=>?_)<;>try exact prn)|refine Ag J J J J J ?_|(refine Al J (ht:=fun h=>?_) (hf:=fun h=>?_)<;>try exact prn)|refine Au ?_|refine Aq ?_|refine Ar ?_|refine A3 ?_|refine Aj Ab J J J J J J J (Ac Z) J ?_|refine Ae Ab J J J J J J J Z (Ac Z) J ?_|refine Ah Ab J J J J J J J J J J J J J (by simp[Ad];omega) ?_|refine Af Ab J J J J J J J J J J J J J J (by simp[Ad];omega) ?_|refine As J J J J ?_|refine A4 ?_|(refine A5 J J J J J (ht:=fun h=>?_) (hf:=fun h=>?_)<;>try exact prn)|(refine A6 J J J J J (ht:=fun h=>?_) (hf:=fun h=>?_)<;>try exact prn)|refine Ai J J J J J ?_|refine An J J J J J J J (Ac Z) J ?_)
 refine AC J (Sub.of_eq ?_)
 rw[List.length_map,AW O O];rfl
theorem PF (l:List Rec) (h0:l≠[]) (hl:l.length≤1000000):Ct Tryz.prog 122 [.t (.slice .any 2 (l.map Bk))] [] (.t (.slice .any 2 (l.map Bk))) []:=by
 refine ct0 Ab Tryz.func122 J false J J ?_
 cases l with
 |nil=>exact absurd J h0
 |cons a r=>
  repeat'(first|refine Ak Ab J J J J J ?_|refine Ap Ab J J J ?_|refine A0 ?_|refine A9 ?_|refine Aw Ab J J ?_|(refine A1 J J J J J (ht:=fun h=>?_) (hf:=fun h=>?_)<;>try exact prn)|(refine A2 J J J J J (ht:=fun h=>?_) (hf:=fun h=>?_)<;>try exact prn)|refine Ag J J J J J ?_|(refine Al J (ht:=fun h=>?_) (hf:=fun h=>?_)<;>try exact prn)|refine Au ?_|refine Aq ?_|refine Ar ?_|refine A3 ?_|refine Aj Ab J J J J J J J (Ac Z) J ?_|refine Ae Ab J J J J J J J Z (Ac Z) J ?_|refine Ah Ab J J J J J J J J J J J J J (by simp[Ad];omega) ?_|refine Af Ab J J J J J J J J J J J J J J (by simp[Ad];omega) ?_|refine As J J J J ?_|refine A4 ?_|(refine A5 J J J J J (ht:=fun h=>?_) (hf:=fun h=>?_)<;>try exact prn)|(refine A6 J J J J J (ht:=fun h=>?_) (hf:=fun h=>?_)<;>try exact prn)|refine Ai J J J J J ?_|refine An J J J J J J J (Ac Z) J ?_|refine XM Ab J J J J J J J J J J J J J (by simp at hl⊢;omega) ?_)
  refine AC J (Sub.of_eq ?_)
  simp[D1]
  exact List.take_of_length_le Y
theorem Ni: ∀{l:List Batch} {b:Batch},l[l.length-1]?=some b→OU l=JB b
 |[],b,h=>by simp at h
 |[a],b,h=>by simp at h;subst h;rfl
 |a::c::r,b,h=>by
  have:(c::r)[(c::r).length-1]?=some b:=by simpa using h
  simp only[OU];exact Ni this
theorem Rp (o:Opn) (h1:1≤o.batches.length) (h2:o.batches.length≤8) (hm: ∀b∈o.batches,B3 b=true):Ct Tryz.prog 123 [.agg (AA (Gx o))] [] (.t (.int .i64 (OU o.batches))) []:=by
 have hlm:(o.batches.map Bj).length=o.batches.length:=List.length_map ..
 have hr:o.batches[o.batches.length-1]?=some (o.batches[o.batches.length-1]' O):=List.getElem?_eq_getElem _
 have hb:=hm _ (List.mem_of_getElem? hr)
 generalize o.batches[o.batches.length-1]' O=b at hr hb
 rw[Ni hr]
 refine ct0 Ab Tryz.func123 J false J J ?_
 have hw:IntKind.i64.wrap (((o.batches.map Bj).length:Int)-1)=((o.batches.length-1:Nat):Int):=by rw[hlm,AW O O];omega
 repeat'(first|refine Ak Ab J J J J J ?_|refine Ap Ab J J J ?_|refine A0 ?_|refine A9 ?_|refine Aw Ab J J ?_|(refine A1 J J J J J (ht:=fun h=>?_) (hf:=fun h=>?_)<;>try exact prn)|(refine A2 J J J J J (ht:=fun h=>?_) (hf:=fun h=>?_)<;>try exact prn)|refine Ag J J J J J ?_|(refine Al J (ht:=fun h=>?_) (hf:=fun h=>?_)<;>try exact prn)|refine Au ?_|refine Aq ?_|refine Ar ?_|refine A3 ?_|refine Aj Ab J J J J J J J (Ac Z) J ?_|refine Ae Ab J J J J J J J Z (Ac Z) J ?_|refine Ah Ab J J J J J J J J J J J J J (by simp[Ad];omega) ?_|refine Af Ab J J J J J J J J J J J J J J (by simp[Ad];omega) ?_|refine As J J J J ?_|refine A4 ?_|(refine A5 J J J J J (ht:=fun h=>?_) (hf:=fun h=>?_)<;>try exact prn)|(refine A6 J J J J J (ht:=fun h=>?_) (hf:=fun h=>?_)<;>try exact prn)|refine Ai J J J J J ?_|refine An J J J J J J J (Ac Z) J ?_|refine Ae Ab J J J J J J J hw (Ac hr) J ?_|refine A7 Ab J J J J J J J (Lw b hb) J J ?_)
 exact AC J (Sub.of_eq J)
theorem U1 (o:Opn) (i:Nat) (b:Batch) (h1:1≤o.batches.length) (h2:o.batches.length≤8) (hm: ∀b∈o.batches,B3 b=true) (hb:B3 b=true) (hi:i<o.batches.length):
  Ct Tryz.prog 121 [.t (.int .i64 i),.agg (AA (Bj b)),.t (.ptr (Gx o))] [] (.agg (AA (Ga (Gy o i b)))) []:=by
 have hlm:(o.batches.map Bj).length=o.batches.length:=List.length_map ..
 have hbb:=Iw hb
 have hne:b.recs≠[]:=fun e=>by rw[e]at hbb;simp at hbb
 have hw:IntKind.i64.wrap (((o.batches.map Bj).length:Int)-1)=((o.batches.length-1:Nat):Int):=by rw[hlm,AW O O];omega
 refine ct0 Ab Tryz.func121 J false J J ?_
 repeat'(first|refine Ak Ab J J J J J ?_|refine Ap Ab J J J ?_|refine A0 ?_|refine A9 ?_|refine Aw Ab J J ?_|(refine A1 J J J J J (ht:=fun h=>?_) (hf:=fun h=>?_)<;>try exact prn)|(refine A2 J J J J J (ht:=fun h=>?_) (hf:=fun h=>?_)<;>try exact prn)|refine Ag J J J J J ?_|(refine Al J (ht:=fun h=>?_) (hf:=fun h=>?_)<;>try exact prn)|refine Au ?_|refine Aq ?_|refine Ar ?_|refine A3 ?_|refine Aj Ab J J J J J J J (Ac Z) J ?_|refine Ae Ab J J J J J J J Z (Ac Z) J ?_|refine Ah Ab J J J J J J J J J J J J J (by simp[Ad];omega) ?_|refine Af Ab J J J J J J J J J J J J J J (by simp[Ad];omega) ?_|refine As J J J J ?_|refine A4 ?_|(refine A5 J J J J J (ht:=fun h=>?_) (hf:=fun h=>?_)<;>try exact prn)|(refine A6 J J J J J (ht:=fun h=>?_) (hf:=fun h=>?_)<;>try exact prn)|refine Ai J J J J J ?_|refine An J J J J J J J (Ac Z) J ?_|refine A7 Ab J J J J J J J (PF b.recs hne O) J J ?_|refine A7 Ab J J J J J J J (Rp o h1 h2 hm) J J ?_)
 ·have e:i+1=o.batches.length:=by rw[hw]at h;omega
  refine AC J ?_
  simp only[Gy,e,if_true]
  repeat'(first|exact Sub.refl _|exact AY|exact H4|exact trivial|refine BM ?_|refine BL ?_|refine And.intro ?_ ?_)
 ·have e: ¬i+1=o.batches.length:=by rw[hw]at h;omega
  refine AC J ?_
  simp only[Gy,e,if_false]
  repeat'(first|exact Sub.refl _|exact AY|exact H4|exact trivial|refine BM ?_|refine BL ?_|refine And.intro ?_ ?_)
theorem VD (o:Opn) (h1:1≤o.batches.length) (h2:o.batches.length≤8) (hm: ∀b∈o.batches,B3 b=true):
  Ct Tryz.prog 120 [.t (.slice .any 5 (o.batches.map Bj)),.t (.func (.func 121) [] [.ptr (Gx o)])] [] (.t (.slice .any 18 ((J3 o).map Ga))) []:=by
 have hlm:(o.batches.map Bj).length=o.batches.length:=List.length_map ..
 refine ct0 Ab Tryz.func120 J false J J ?_
 have hcn:(((o.batches.map Bj).length:Nat):Int)=((o.batches.length:Nat):Int):=by rw[hlm]
 repeat'(first|refine Ak Ab J J J J J ?_|refine Ap Ab J J J ?_|refine A0 ?_|refine A9 ?_|refine Aw Ab J J ?_|(refine A1 J J J J J (ht:=fun h=>?_) (hf:=fun h=>?_)<;>try exact prn)|(refine A2 J J J J J (ht:=fun h=>?_) (hf:=fun h=>?_)<;>try exact prn)|refine Ag J J J J J ?_|(refine Al J (ht:=fun h=>?_) (hf:=fun h=>?_)<;>try exact prn)|refine Au ?_|refine Aq ?_|refine Ar ?_|refine A3 ?_|refine Aj Ab J J J J J J J (Ac Z) J ?_|refine Ae Ab J J J J J J J Z (Ac Z) J ?_|refine Ah Ab J J J J J J J J J J J J J (by simp[Ad];omega) ?_|refine Af Ab J J J J J J J J J J J J J J (by simp[Ad];omega) ?_|refine As J J J J ?_|refine A4 ?_|(refine A5 J J J J J (ht:=fun h=>?_) (hf:=fun h=>?_)<;>try exact prn)|(refine A6 J J J J J (ht:=fun h=>?_) (hf:=fun h=>?_)<;>try exact prn)|refine Ai J J J J J ?_|refine An J J J J J J J (Ac Z) J ?_|refine JJ Ab J J J J J J J (l:=0) J hcn J J O O ?_)
 refine BC (ι:=Nat) (fun i=>i≤o.batches.length) (fun i=>[(1,.t (.func (.func 121) [] [.ptr (Gx o)])),(5,.row 20 18 0 (((o.batches.take i).mapIdx (Gy o)).map Ga).length),(11,.t (.slice .any 5 (o.batches.map Bj))),(12,.t (.int .i64 o.batches.length)),(13,.t (.int .i64 i))]) (fun i=>[(20,.grow 18 (((o.batches.take i).mapIdx (Gy o)).map Ga))]) (fun i=>o.batches.length-i) 0 Y ?_ ?_
 ·exact Ce [] (Av J J (Av J J (Av J J (Av J (by rw[hlm]) (Av J J AJ))))) J
 rintro i hi
 by_cases hlt:i<o.batches.length
 ·have hr:o.batches[i]?=some o.batches[i]:=List.getElem?_eq_getElem hlt
  have hb:=hm o.batches[i] (List.getElem_mem hlt)
  generalize o.batches[i]=r at hr hb
  have ht:(o.batches.take (i+1)).mapIdx (Gy o)=(o.batches.take i).mapIdx (Gy o)++[Gy o i r]:=by
   rw[BK hr,List.mapIdx_append];simp;congr 1;omega
  repeat'(first|refine Ak Ab J J J J J ?_|refine Ap Ab J J J ?_|refine A0 ?_|refine A9 ?_|refine Aw Ab J J ?_|(refine A1 J J J J J (ht:=fun h=>?_) (hf:=fun h=>?_)<;>try exact prn)|(refine A2 J J J J J (ht:=fun h=>?_) (hf:=fun h=>?_)<;>try exact prn)|refine Ag J J J J J ?_|(refine Al J (ht:=fun h=>?_) (hf:=fun h=>?_)<;>try exact prn)|refine Au ?_|refine Aq ?_|refine Ar ?_|refine A3 ?_|refine Aj Ab J J J J J J J (Ac Z) J ?_|refine Ae Ab J J J J J J J Z (Ac Z) J ?_|refine Ah Ab J J J J J J J J J J J J J (by simp[Ad];omega) ?_|refine Af Ab J J J J J J J J J J J J J J (by simp[Ad];omega) ?_|refine As J J J J ?_|refine A4 ?_|(refine A5 J J J J J (ht:=fun h=>?_) (hf:=fun h=>?_)<;>try exact prn)|(refine A6 J J J J J (ht:=fun h=>?_) (hf:=fun h=>?_)<;>try exact prn)|refine Ai J J J J J ?_|refine An J J J J J J J (Ac Z) J ?_|refine A7 Ab J J J J J J J (U1 o i r h1 h2 hm hb hlt) J J ?_)
  refine BB (i+1) hlt O [7] (Av J J (Av J ?_ (Av J J (Av J J (Av J ?_ AJ))))) ?_
  ·rw[ht];simp[Ad];rfl
  ·rw[AW O O];rfl
  ·rw[ht];simp only[List.map_append,List.map_cons,List.map_nil];rfl
 ·repeat'(first|refine Ak Ab J J J J J ?_|refine Ap Ab J J J ?_|refine A0 ?_|refine A9 ?_|refine Aw Ab J J ?_|(refine A1 J J J J J (ht:=fun h=>?_) (hf:=fun h=>?_)<;>try exact prn)|(refine A2 J J J J J (ht:=fun h=>?_) (hf:=fun h=>?_)<;>try exact prn)|refine Ag J J J J J ?_|(refine Al J (ht:=fun h=>?_) (hf:=fun h=>?_)<;>try exact prn)|refine Au ?_|refine Aq ?_|refine Ar ?_|refine A3 ?_|refine Aj Ab J J J J J J J (Ac Z) J ?_|refine Ae Ab J J J J J J J Z (Ac Z) J ?_|refine Ah Ab J J J J J J J J J J J J J (by simp[Ad];omega) ?_|refine Af Ab J J J J J J J J J J J J J J (by simp[Ad];omega) ?_|refine As J J J J ?_|refine A4 ?_|(refine A5 J J J J J (ht:=fun h=>?_) (hf:=fun h=>?_)<;>try exact prn)|(refine A6 J J J J J (ht:=fun h=>?_) (hf:=fun h=>?_)<;>try exact prn)|refine Ai J J J J J ?_|refine An J J J J J J J (Ac Z) J ?_)
  refine AC J ?_
  rw[List.take_of_length_le O]
  refine Sub.of_eq ?_
  simp[D1,J3]
  exact List.take_of_length_le Y
theorem NW: ∀{l:List Batch} {b:Batch},l[0]?=some b→P0 l=b.seq
 |[],b,h=>by simp at h
 |a::r,b,h=>by simp at h;subst h;rfl
theorem Tg (o:Opn) (h:Ma o=true):Ct Tryz.prog 118 [.agg (AA (Gx o))] [] (.t .nilIface) []:=by
 have hlm:(o.batches.map Bj).length=o.batches.length:=List.length_map ..
 simp only[Ma,Bool.and_eq_true,decide_eq_true_eq]at h
 obtain⟨⟨h1,h2⟩,hch⟩:=h
 have hr0:o.batches[0]?=some (o.batches[0]' O):=List.getElem?_eq_getElem _
 have hf:=NW hr0
 rw[hf]at hch
 generalize o.batches[0]' O=b0' at hr0 hch
 refine ct0 Ab Tryz.func118 J false J J ?_
 repeat'(first|refine Ak Ab J J J J J ?_|refine Ap Ab J J J ?_|refine A0 ?_|refine A9 ?_|refine Aw Ab J J ?_|(refine A1 J J J J J (ht:=fun h=>?_) (hf:=fun h=>?_)<;>try exact prn)|(refine A2 J J J J J (ht:=fun h=>?_) (hf:=fun h=>?_)<;>try exact prn)|refine Ag J J J J J ?_|(refine Al J (ht:=fun h=>?_) (hf:=fun h=>?_)<;>try exact prn)|refine Au ?_|refine Aq ?_|refine Ar ?_|refine A3 ?_|refine Aj Ab J J J J J J J (Ac Z) J ?_|refine Ae Ab J J J J J J J Z (Ac Z) J ?_|refine Ah Ab J J J J J J J J J J J J J (by simp[Ad];omega) ?_|refine Af Ab J J J J J J J J J J J J J J (by simp[Ad];omega) ?_|refine As J J J J ?_|refine A4 ?_|(refine A5 J J J J J (ht:=fun h=>?_) (hf:=fun h=>?_)<;>try exact prn)|(refine A6 J J J J J (ht:=fun h=>?_) (hf:=fun h=>?_)<;>try exact prn)|refine Ai J J J J J ?_|refine An J J J J J J J (Ac Z) J ?_|refine Aj (kc:=0) Ab J J J J J J J (Ac hr0) J ?_)
 refine BC (ι:=Nat×Int) (fun p=>p.1≤o.batches.length∧EV o.pid o.epoch p.2 (o.batches.drop p.1)=true) (fun p=>[(1,.ref 2 0),(3,.t (.int .i64 p.2)),(25,.t (.slice .any 5 (o.batches.map Bj))),(26,.t (.int .i64 o.batches.length)),(27,.t (.int .i64 p.1))]) (fun _=>[(2,.cells (AA (Gx o)))]) (fun p=>o.batches.length-p.1) (0,b0'.seq) ⟨by simp,hch⟩ ?_ ?_
 ·exact Ce [] (Av J J (Av J J (Av J J (Av J (by rw[hlm]) (Av J J AJ))))) J
 rintro⟨i,next⟩ ⟨hi,hc⟩
 simp only at hi hc
 by_cases hlt:i<o.batches.length
 ·have hr:o.batches[i]?=some o.batches[i]:=List.getElem?_eq_getElem hlt
  generalize o.batches[i]=r at hr
  rw[Gb hr]at hc
  simp only[EV,Bool.and_eq_true,decide_eq_true_eq]at hc
  obtain⟨⟨⟨⟨⟨c1,c2⟩,c3⟩,c4⟩,c5⟩,c6⟩:=hc
  have hbb:=Iw c1
  have cm:Ct Tryz.prog 128 [.agg (AA (Bj r))] [] (.t (.bool true)) []:=c1▸NL r O
  repeat'(first|refine Ak Ab J J J J J ?_|refine Ap Ab J J J ?_|refine A0 ?_|refine A9 ?_|refine Aw Ab J J ?_|(refine A1 J J J J J (ht:=fun h=>?_) (hf:=fun h=>?_)<;>try exact prn)|(refine A2 J J J J J (ht:=fun h=>?_) (hf:=fun h=>?_)<;>try exact prn)|refine Ag J J J J J ?_|(refine Al J (ht:=fun h=>?_) (hf:=fun h=>?_)<;>try exact prn)|refine Au ?_|refine Aq ?_|refine Ar ?_|refine A3 ?_|refine Aj Ab J J J J J J J (Ac Z) J ?_|refine Ae Ab J J J J J J J Z (Ac Z) J ?_|refine Ah Ab J J J J J J J J J J J J J (by simp[Ad];omega) ?_|refine Af Ab J J J J J J J J J J J J J J (by simp[Ad];omega) ?_|refine As J J J J ?_|refine A4 ?_|(refine A5 J J J J J (ht:=fun h=>?_) (hf:=fun h=>?_)<;>try exact prn)|(refine A6 J J J J J (ht:=fun h=>?_) (hf:=fun h=>?_)<;>try exact prn)|refine Ai J J J J J ?_|refine An J J J J J J J (Ac Z) J ?_|refine A7 Ab J J J J J J J (cm) J J ?_|refine A7 Ab J J J J J J J (Lw r c1) J J ?_)
  all_goals try(exfalso;simp_all;done)
  refine BB (i+1,JB r) ⟨hlt,c6⟩ (by simp;omega) [5] (Av J J (Av J J (Av J J (Av J J (Av J ?_ AJ))))) J
  rw[AW O O];rfl
 ·repeat'(first|refine Ak Ab J J J J J ?_|refine Ap Ab J J J ?_|refine A0 ?_|refine A9 ?_|refine Aw Ab J J ?_|(refine A1 J J J J J (ht:=fun h=>?_) (hf:=fun h=>?_)<;>try exact prn)|(refine A2 J J J J J (ht:=fun h=>?_) (hf:=fun h=>?_)<;>try exact prn)|refine Ag J J J J J ?_|(refine Al J (ht:=fun h=>?_) (hf:=fun h=>?_)<;>try exact prn)|refine Au ?_|refine Aq ?_|refine Ar ?_|refine A3 ?_|refine Aj Ab J J J J J J J (Ac Z) J ?_|refine Ae Ab J J J J J J J Z (Ac Z) J ?_|refine Ah Ab J J J J J J J J J J J J J (by simp[Ad];omega) ?_|refine Af Ab J J J J J J J J J J J J J J (by simp[Ad];omega) ?_|refine As J J J J ?_|refine A4 ?_|(refine A5 J J J J J (ht:=fun h=>?_) (hf:=fun h=>?_)<;>try exact prn)|(refine A6 J J J J J (ht:=fun h=>?_) (hf:=fun h=>?_)<;>try exact prn)|refine Ai J J J J J ?_|refine An J J J J J J J (Ac Z) J ?_)
  exact AC J (Sub.of_eq J)
theorem Ny {pid epoch:Int}: ∀{l:List Batch} {next:Int},EV pid epoch next l=true→ ∀b∈l,B3 b=true
 |[],_,_,b,hb=>by simp at hb
 |a::r,next,h,b,hb=>by
  simp only[EV,Bool.and_eq_true]at h
  simp only[List.mem_cons]at hb
  rcases hb with rfl|hb
  ·exact h.1.1.1.1.1
  ·exact Ny h.2 b hb
theorem Tb (o:Opn) (h:Ma o=true):Ct Tryz.prog 90 [.agg (AA (Gx o))] [] (.tuple [.t (.slice .any 18 ((J3 o).map Ga)),.t (.int .i64 0)]) []:=by
 have h':=h
 simp only[Ma,Bool.and_eq_true,decide_eq_true_eq]at h'
 obtain⟨⟨h1,h2⟩,hch⟩:=h'
 refine ct0 Ab Tryz.func90 J false J J ?_
 refine A9 ?_
 refine Aw Ab J J ?_
 repeat'(first|refine Ak Ab J J J J J ?_|refine Ap Ab J J J ?_|refine A0 ?_|(refine A1 J J J J J (ht:=fun h=>?_) (hf:=fun h=>?_)<;>try exact prn)|(refine A2 J J J J J (ht:=fun h=>?_) (hf:=fun h=>?_)<;>try exact prn)|refine Ag J J J J J ?_|refine Aj Ab J J J J J J J (Ac Z) J ?_|refine Ae Ab J J J J J J J Z (Ac Z) J ?_|refine Ah Ab J J J J J J J J J J J J J (by simp[Ad];omega) ?_|refine Af Ab J J J J J J J J J J J J J J (by simp[Ad];omega) ?_|refine As J J J J ?_|refine A4 ?_|(refine A5 J J J J J (ht:=fun h=>?_) (hf:=fun h=>?_)<;>try exact prn)|(refine A6 J J J J J (ht:=fun h=>?_) (hf:=fun h=>?_)<;>try exact prn)|refine Ai J J J J J ?_|refine An J J J J J J J (Ac Z) J ?_)
 refine Tr.freezeBox (cs:=Gx o) 1 2 J J J J ?_
 repeat'(first|refine Ak Ab J J J J J ?_|refine Ap Ab J J J ?_|refine A0 ?_|refine A9 ?_|refine Aw Ab J J ?_|(refine A1 J J J J J (ht:=fun h=>?_) (hf:=fun h=>?_)<;>try exact prn)|(refine A2 J J J J J (ht:=fun h=>?_) (hf:=fun h=>?_)<;>try exact prn)|refine Ag J J J J J ?_|(refine Al J (ht:=fun h=>?_) (hf:=fun h=>?_)<;>try exact prn)|refine Au ?_|refine Aq ?_|refine Ar ?_|refine A3 ?_|refine Aj Ab J J J J J J J (Ac Z) J ?_|refine Ae Ab J J J J J J J Z (Ac Z) J ?_|refine Ah Ab J J J J J J J J J J J J J (by simp[Ad];omega) ?_|refine Af Ab J J J J J J J J J J J J J J (by simp[Ad];omega) ?_|refine As J J J J ?_|refine A4 ?_|(refine A5 J J J J J (ht:=fun h=>?_) (hf:=fun h=>?_)<;>try exact prn)|(refine A6 J J J J J (ht:=fun h=>?_) (hf:=fun h=>?_)<;>try exact prn)|refine Ai J J J J J ?_|refine An J J J J J J J (Ac Z) J ?_|refine A7 Ab J J J J J J J (Tg o h) J J ?_|refine A7 Ab J J J J J J J (VD o h1 h2 (Ny hch)) J J ?_)
 exact AC J (Sub.of_eq J)
end Go.Proofs.YthjoclecnacdiaaGreatDoor
namespace Go.Proofs.YthjoclecnacdiaaGreatDoor
open Go.Am
attribute [local irreducible] Decidable.decide
set_option maxRecDepth 100000
set_option maxHeartbeats 1000000
def dI:T→Option Int
 |.int _ n=>some n
 |_=>none
def dB:T→Option Bool
 |.bool b=>some b
 |_=>none
def dS:T→Option Bs
 |.str s=>some s
 |_=>none
def Abn {α:Type} (f:List T→Option α):List (List T)→Option (List α)
 |[]=>some []
 |x::r=>(f x).bind fun a=>(Abn f r).bind fun l=>some (a::l)
def dL {α:Type} (f:List T→Option α):T→Option (List α)
 |.slice _ _ es=>Abn f es
 |_=>none
def Ac3:List T→Option Rec
 |[a,b]=>(dS a).bind fun a=>(dS b).bind fun b=>some ⟨a,b⟩
 |_=>none
def Y1:List T→Option Batch
 |[a,b,c,d,e]=>(dI a).bind fun a=>(dI b).bind fun b=>(dI c).bind fun c=>(dB d).bind fun d=>(dL Ac3 e).bind fun e=>some ⟨a,b,c,d,e⟩
 |_=>none
def Abl:List T→Option Seen
 |[a,b,c]=>(dI a).bind fun a=>(dI b).bind fun b=>(dI c).bind fun c=>some ⟨a,b,c⟩
 |_=>none
def Abm:List T→Option Prod
 |[a,b,c,e]=>(dI a).bind fun a=>(dI b).bind fun b=>(dI c).bind fun c=>(dL Abl e).bind fun e=>some ⟨a,b,c,e⟩
 |_=>none
def Ac4:List T→Option Opn
 |[a,b,e]=>(dI a).bind fun a=>(dI b).bind fun b=>(dL Y1 e).bind fun e=>some ⟨a,b,e⟩
 |_=>none
def Abk {α:Type} (f:List T→Option α):List AV→Option α
 |[.agg cs]=>(allT cs).bind f
 |_=>none
def Yv:=Us 117 (Abk Abm) (fun p=>[.agg (AA (KR p))]) (fun p=>Nat.ble p.seen.length 1000000) (fun p=>.t (.bool (GY p)))
def VH:=Us 90 (Abk Ac4) (fun o=>[.agg (AA (Gx o))]) Ma (fun o=>.tuple [.t (.slice .any 18 ((J3 o).map Ga)),.t (.int .i64 0)])
end Go.Proofs.YthjoclecnacdiaaGreatDoor
