/- Contracts and laws, joined: Pp, Pq, Pr, Ps. No condition beside those that each theorem names. -/
import Derived.Test.YtpdmaenhenfofaaGreatDoorZJ5
import Derived.Test.YtpdmaenhenfofaaGreatDoorZEb
import Derived.Test.YtpdmaenhenfofaaGreatDoorZM5
import Derived.Test.YtpdmaenhenfofaaGreatDoorZEc
set_option linter.unusedVariables false
set_option linter.unusedSimpArgs false
namespace Go.Proofs.YtpdmaenhenfofaaGreatDoor
open Go.Am
attribute [local irreducible] Decidable.decide
set_option maxRecDepth 100000
set_option maxHeartbeats 1000000
theorem O2 (l:List Entry) (hl:l.length≤1000000) (hsm: ∀x∈l,DV x):Ct Tryz.prog 32 [.t (.slice .any 18 (l.map A4))] [] (.tuple [.t (.slice .any 1 (if l.all B9=true then(l.map AH).map DE else[])),.t (.int .i64 (if l.all B9=true then 0 else 2))]) []:=by
 refine ct0 Ac Tryz.func32 J false J J ?_
 have ce:=Aep l hl hsm
 unfold R4 at ce
 by_cases ha:l.all B9=true
 ·rw[if_pos ha]at ce;simp only[if_pos ha]
  repeat'(first|refine Ae Ac J J J ?_|refine Ag ?_|refine Ah ?_|refine Ai Ac J J ?_|refine Ar ?_|refine Ak Ac J J J J J J J (ce) J J ?_|refine Ak Ac J J J J J J J (YF) J J ?_)
  exact Au J (Sub.of_eq J)
 ·rw[if_neg ha]at ce;simp only[if_neg ha]
  repeat'(first|refine Ae Ac J J J ?_|refine Ag ?_|refine Ah ?_|refine Ai Ac J J ?_|refine Ar ?_|refine Ak Ac J J J J J J J (ce) J J ?_|refine Ak Ac J J J J J J J (Abt _ _) J J ?_)
  exact Au J (Sub.of_eq J)
theorem Abf (n:Nat) (hn:n≤1024):Ct Tryz.prog 111 [.t (.int .i64 n)] [] (.t (.int .i64 ((n+4:Nat):Int))) []:=by
 refine ct0 Ac Tryz.func111 J false J J ?_
 repeat'(first|refine Ae Ac J J J ?_|refine Ag ?_|refine Ah ?_|refine Ai Ac J J ?_|(refine Af J (ht:=fun h=>?_) (hf:=fun h=>?_)<;>try exact prn)|refine Al ?_|refine Ao ?_|refine AB ?_|refine Ar ?_)
 refine Au J (Sub.of_eq ?_)
 rw[A0 O O];congr 2;omega
def Ahb (n i:Nat):List AV:=[.t (.int .u8 (if 0<i then((UInt8.ofNat (n % 256)).toNat:Int)else 0)),.t (.int .u8 (if 1<i then((UInt8.ofNat (n/256)).toNat:Int)else 0)),.t (.int .u8 0),.t (.int .u8 0)]
theorem RT {n m:Nat} (h:m=n % 256):IntKind.u8.wrap (n:Int)=((UInt8.ofNat m).toNat:Int):=by
 subst h
 simp[IntKind.wrap,IntKind.bits,IntKind.signed]
theorem Abn (n:Nat) (hn:n≤1024):Ct Tryz.prog 112 [.t (.int .i64 n)] [] (.agg (Ahb n 4)) []:=by
 refine ct0 Ac Tryz.func112 J false J J ?_
 repeat'(first|refine Ae Ac J J J ?_|refine Ag ?_|refine Ah ?_|refine Ai Ac J J ?_|refine Al ?_)
 refine AM (ι:=Nat) (fun i=>i≤4) (fun i=>[(0,.t (.int .i64 n)),(2,.ref 4 0),(3,.ref 6 0),(5,.t (.int .i64 i))]) (fun i=>[(6,.cells (Ahb n i)),(4,.cells (Aj Z1.zero))]) (fun i=>4-i) 0 Z ?_ ?_
 ·exact AR [] (Ad J J (Ad J J (Ad J J (Ad J J Aq)))) J
 have f0:Int.fdiv (n:Int) (2^min 0 64)=((n:Nat):Int):=by simp
 have f1:Int.fdiv (n:Int) (2^min 8 64)=((n/256:Nat):Int):=by simp[Int.fdiv_eq_ediv]
 have f2:Int.fdiv (n:Int) (2^min 16 64)=((0:Nat):Int):=by simp[Int.fdiv_eq_ediv];omega
 have f3:Int.fdiv (n:Int) (2^min 24 64)=((0:Nat):Int):=by simp[Int.fdiv_eq_ediv];omega
 intro i hi
 match i,hi with
 |0,_=>
  repeat'(first|refine An Ac J J J J J ?_|refine Ae Ac J J J ?_|refine Ag ?_|refine Ah ?_|refine Ai Ac J J ?_|(refine Af J (ht:=fun h=>?_) (hf:=fun h=>?_)<;>try exact prn)|refine Al ?_|refine Ao ?_|refine WK Ac 0 J J J J (A0 Ab Ab) J ?_)
  refine AF 1 O O [] (Ad J J (Ad J J (Ad J J (Ad J ?_ Aq)))) ?_
  ·rw[A0 Ab Ab];rfl
  ·rw[show IntKind.i64.bits=64 from rfl,f0,RT J];rfl
 |1,_=>
  repeat'(first|refine An Ac J J J J J ?_|refine Ae Ac J J J ?_|refine Ag ?_|refine Ah ?_|refine Ai Ac J J ?_|(refine Af J (ht:=fun h=>?_) (hf:=fun h=>?_)<;>try exact prn)|refine Al ?_|refine Ao ?_|refine WK Ac 8 J J J J (A0 Ab Ab) J ?_)
  refine AF 2 O O [] (Ad J J (Ad J J (Ad J J (Ad J ?_ Aq)))) ?_
  ·rw[A0 Ab Ab];rfl
  ·rw[show IntKind.i64.bits=64 from rfl,f1,RT (m:=n/256) O];rfl
 |2,_=>
  repeat'(first|refine An Ac J J J J J ?_|refine Ae Ac J J J ?_|refine Ag ?_|refine Ah ?_|refine Ai Ac J J ?_|(refine Af J (ht:=fun h=>?_) (hf:=fun h=>?_)<;>try exact prn)|refine Al ?_|refine Ao ?_|refine WK Ac 16 J J J J (A0 Ab Ab) J ?_)
  refine AF 3 O O [] (Ad J J (Ad J J (Ad J J (Ad J ?_ Aq)))) ?_
  ·rw[A0 Ab Ab];rfl
  ·rw[show IntKind.i64.bits=64 from rfl,f2,RT (m:=0) J];rfl
 |3,_=>
  repeat'(first|refine An Ac J J J J J ?_|refine Ae Ac J J J ?_|refine Ag ?_|refine Ah ?_|refine Ai Ac J J ?_|(refine Af J (ht:=fun h=>?_) (hf:=fun h=>?_)<;>try exact prn)|refine Al ?_|refine Ao ?_|refine WK Ac 24 J J J J (A0 Ab Ab) J ?_)
  refine AF 4 O O [] (Ad J J (Ad J J (Ad J J (Ad J ?_ Aq)))) ?_
  ·rw[A0 Ab Ab];rfl
  ·rw[show IntKind.i64.bits=64 from rfl,f3,RT (m:=0) J];rfl
 |4,_=>
  repeat'(first|refine An Ac J J J J J ?_|refine Ae Ac J J J ?_|refine Ag ?_|refine Ah ?_|refine Ai Ac J J ?_|(refine Af J (ht:=fun h=>?_) (hf:=fun h=>?_)<;>try exact prn)|refine AB ?_|refine Ar ?_)
  exact Au J (Sub.of_eq J)
end Go.Proofs.YtpdmaenhenfofaaGreatDoor
namespace Go.Proofs.YtpdmaenhenfofaaGreatDoor
open Go.Am
attribute [local irreducible] Decidable.decide
set_option maxRecDepth 100000
set_option maxHeartbeats 1000000
theorem Aa0 (k:Int):Ct Tryz.prog 62 [.t .nilIface,.t (.iface 26 (.int .i64 k))] [] (.t (.bool false)) []:=by
 refine⟨⟨_,Tryz.func62,J⟩,fun vs w g hr hi=>?_⟩
 obtain⟨hlen,hrel⟩:=hr
 match vs,hlen with
 |[v1,v2],_=>
  have r1:=A8 (hrel 0 v1 _ J J)
  have r2:=A8 (hrel 1 v2 _ J J)
  cases r1
  cases r2 with
  |iface _ p2 _ r2=>
   cases r2
   refine(Aid k w).mono ?_
   rintro ev w' ⟨rfl,rfl⟩
   exact⟨_,g,J,Ext.refl _ _,.t _ _ (.bool _),hi⟩
def Afc (ft off:Nat):Prop:= ∀(pb po:Nat) (n k:Int) (w:World),w.cell? ⟨pb,po+off,none⟩=some (.int .i64 n)→
 Calls Tryz.prog 62 #[.iface ft (.pointer (some ⟨pb,po,none⟩)),.iface 26 (.int .i64 k)] w fun ev w'=>ev=.returned (.bool (decide (n=k)))∧w'=w
theorem Aay {ft off:Nat} (h:Afc ft off) (cs:List T) (n k:Int) (hcs:cs[off]?=some (.int .i64 n)):
  Ct Tryz.prog 62 [.t (.iface ft (.ptr cs)),.t (.iface 26 (.int .i64 k))] [] (.t (.bool (decide (n=k)))) []:=by
 refine⟨⟨_,Tryz.func62,J⟩,fun vs w g hr hi=>?_⟩
 obtain⟨hlen,hrel⟩:=hr
 match vs,hlen with
 |[v1,v2],_=>
  have r1:=A8 (hrel 0 v1 _ J J)
  have r2:=A8 (hrel 1 v2 _ J J)
  cases r1 with
  |iface _ p1 _ r1=>
   obtain⟨pb,po,rfl,hc⟩:=Ih r1
   cases r2 with
   |iface _ p2 _ r2=>
    cases r2
    obtain⟨_,_,x1,hx1,hx2⟩:=hc off _ hcs
    have hx3:x1=.int .i64 n:=by cases hx2;rfl
    subst hx3
    refine(h pb po n k w hx1).mono ?_
    rintro ev w' ⟨rfl,rfl⟩
    exact⟨_,g,J,Ext.refl _ _,.t _ _ (.bool _),hi⟩
theorem U3:Afc 97 1:=fun pb po n k w h=>by
 by_cases e:n=k
 ·subst e;simp only[decide_true];exact Yy pb po n n w h J
 ·simp only[e,decide_false];exact Yz pb po n k w h e
theorem Y7 (s:Bs) (hs:s.length≤1024):Ct Tryz.prog 61 [.t (.str s)] [] (.tuple [.t (.str (BB s)),.t .nilIface]) []:=by
 refine ct0 Ac Tryz.func61 J false J J ?_
 repeat'(first|refine An Ac J J J J J ?_|refine Ae Ac J J J ?_|refine Ag ?_|refine Ah ?_|refine Ai Ac J J ?_|(refine Af J (ht:=fun h=>?_) (hf:=fun h=>?_)<;>try exact prn)|refine Ao ?_|refine Ar ?_|refine Ak Ac J J J J J J J (Abf _ hs) J J ?_|refine Ak Ac J J J J J J J (Abn _ hs) J J ?_|refine Zq Ac J J J J J J J Z J ?_|refine TN 4 8 (cs:=[.int .u8 ((UInt8.ofNat (s.length % 256)).toNat:Int),.int .u8 ((UInt8.ofNat (s.length/256)).toNat:Int),.int .u8 0,.int .u8 0]) J J J J J ?_|refine Fz (s:=[UInt8.ofNat (s.length % 256),UInt8.ofNat (s.length/256),0,0]) Ac J J J J J J J J ?_|refine Zw Ac J J J J J (by simp;omega) ?_)
 exact Au J (Sub.of_eq J)
theorem M8 (s:Bs) (hs:s.length≤1024):Ct Tryz.prog 33 [.t (.str s)] [] (.tuple [.t (.str (BB s)),.t (.int .i64 0)]) []:=by
 refine ct0 Ac Tryz.func33 J false J J ?_
 repeat'(first|refine Ae Ac J J J ?_|refine Ag ?_|refine Ah ?_|refine Ai Ac J J ?_|(refine Af J (ht:=fun h=>?_) (hf:=fun h=>?_)<;>try exact prn)|refine Ao ?_|refine Ar ?_|refine Ak Ac J J J J J J J (Y7 s hs) J J ?_|refine Ak Ac J J J J J J J (Aa0 2) J J ?_)
 exact Au J (Sub.of_eq J)
theorem LO (name:Bs) (l:List Entry) (hl:l.length≤1000000) (hsm: ∀x∈l,DV x):Ct Tryz.prog 11 [.t (.str name),.t (.slice .any 18 (l.map A4))] [] (.tuple [.t (.slice .any 4 ((Of name l).map BV)),.t (.int .i64 (PJ l))]) []:=by
 refine ct0 Ac Tryz.func11 J false J J ?_
 have cl:=O2 l hl hsm
 by_cases hall:l.all B9=true
 ·simp only[if_pos hall]at cl
  have hlm:((l.map AH).map DE).length=l.length:=by simp
  repeat'(first|refine Ae Ac J J J ?_|refine Ag ?_|refine Ah ?_|refine Ai Ac J J ?_|(refine AP J J J J J (ht:=fun h=>?_) (hf:=fun h=>?_)<;>try exact prn)|(refine Af J (ht:=fun h=>?_) (hf:=fun h=>?_)<;>try exact prn)|refine Al ?_|refine Ao ?_|refine Ar ?_|refine Ak Ac J J J J J J J (cl) J J ?_)
  ·have hn:l=[]:=List.eq_nil_of_length_eq_zero O
   subst hn
   refine Au J ?_
   simp only[Of,PJ]
   exact AK ⟨A6,Sub.refl _,trivial⟩
  have hne:l≠[]:=fun e=>by subst e;simp at h
  refine Tr.nilRow 8 43 4 J J ?_
  refine AM (ι:=Nat) (fun i=>i≤l.length) (fun i=>[(0,.t (.str name)),(8,.row 86 4 0 (((l.take i).map (KJ name)).map BV).length),(25,.t (.slice .any 1 ((l.map AH).map DE))),(26,.t (.int .i64 l.length)),(27,.t (.int .i64 i))]) (fun i=>[(86,.grow 4 (((l.take i).map (KJ name)).map BV))]) (fun i=>l.length-i) 0 Z ?_ ?_
  ·exact AR [] (Ad J J (Ad J J (Ad J J (Ad J (by rw[hlm]) (Ad J J Aq))))) J
  rintro i hi
  by_cases hlt:i<l.length
  ·have hr:l[i]?=some l[i]:=List.getElem?_eq_getElem hlt
   have hm:=List.all_eq_true.1 hall l[i] (List.getElem_mem hlt)
   generalize l[i]=r at hr hm
   have hr2:(l.map AH)[i]?=some (AH r):=by simp[hr]
   repeat'(first|refine An Ac J J J J J ?_|refine Ae Ac J J J ?_|refine Ag ?_|refine Ah ?_|refine Ai Ac J J ?_|(refine Af J (ht:=fun h=>?_) (hf:=fun h=>?_)<;>try exact prn)|refine Al ?_|refine Ao ?_|refine AD Ac J J J J J J J (A2 Aa) J ?_|refine AN Ac J J J J J J J J J J J J J J (by simp[AW];omega) ?_|refine Ak Ac J J J J J J J (M8 _ (Fr hm)) J J ?_)
   refine AF (i+1) hlt O [] (Ad J J (Ad J ?_ (Ad J J (Ad J J (Ad J ?_ Aq))))) ?_
   ·rw[AL hr];simp[AW]
   ·rw[A0 O O];rfl
   ·rw[AL hr];simp[AW,SU,BV,KJ,FZ,DO]
  ·repeat'(first|refine An Ac J J J J J ?_|refine Ae Ac J J J ?_|refine Ag ?_|refine Ah ?_|refine Ai Ac J J ?_|(refine Af J (ht:=fun h=>?_) (hf:=fun h=>?_)<;>try exact prn)|refine AB ?_|refine Ar ?_|refine AN Ac J J J J J J J J J J J J J J (by simp[AW];omega) ?_)
   refine Au J (Sub.of_eq ?_)
   simp only[Of,PJ,hne,hall,ne_eq,not_false_eq_true,and_self,if_true]
   rw[List.take_of_length_le O]
   simp[BA,CX,AW,SU,BV,KJ]
   exact List.take_of_length_le Z
 ·simp only[if_neg hall]at cl
  repeat'(first|refine Ae Ac J J J ?_|refine Ag ?_|refine Ah ?_|refine Ai Ac J J ?_|(refine AP J J J J J (ht:=fun h=>?_) (hf:=fun h=>?_)<;>try exact prn)|(refine Af J (ht:=fun h=>?_) (hf:=fun h=>?_)<;>try exact prn)|refine Ar ?_|refine Ak Ac J J J J J J J (cl) J J ?_)
  refine Au J ?_
  simp only[Of,PJ,hall,Bool.false_eq_true,and_false,if_false]
  exact AK ⟨A6,Sub.refl _,trivial⟩
end Go.Proofs.YtpdmaenhenfofaaGreatDoor
namespace Go.Proofs.YtpdmaenhenfofaaGreatDoor
open Go.Am
attribute [local irreducible] Decidable.decide
set_option maxRecDepth 100000
set_option maxHeartbeats 1000000
def Bo (b:Batch):Int:=b.seq+b.recs.length
def Cj (pid epoch:Int):Int→List Batch→Bool
 |_,[]=>true
 |next,b::r=>A1 b&&b.txn&&decide (b.pid=pid)&&decide (b.epoch=epoch)&&decide (b.seq=next)&&Cj pid epoch (Bo b) r
def HA:List Batch→Int
 |[]=>0
 |b::_=>b.seq
def D3:List Batch→Int
 |[]=>0
 |[b]=>Bo b
 |_::r=>D3 r
def BZ (o:Opn):Bool:=decide (1≤o.batches.length∧o.batches.length≤8)&&Cj o.pid o.epoch (HA o.batches) o.batches
def Fs (o:Opn) (i:Nat) (b:Batch):Entry:=if i+1=o.batches.length then⟨3,b,true,D3 o.batches,0,Ia,DG⟩else⟨3,b,false,0,0,Ia,DG⟩
def BC (o:Opn):List Entry:=o.batches.mapIdx (Fs o)
theorem AU {b:Batch} (h:A1 b=true):0≤b.seq∧b.seq+b.recs.length≤1048576∧1≤b.recs.length∧b.recs.length≤4:=by
 simp only[A1,Bool.and_eq_true,decide_eq_true_eq]at h
 have h:=h.1
 unfold Cm at h;omega
theorem G5 (b:Batch) (hb:A1 b=true):Ct Tryz.prog 98 [.agg (Aj (Ap b))] [] (.t (.int .i64 (Bo b))) []:=by
 have h:=AU hb
 refine ct0 Ac Tryz.func98 J false J J ?_
 repeat'(first|refine Ae Ac J J J ?_|refine Ag ?_|refine Ah ?_|refine Ai Ac J J ?_|refine Ar ?_)
 refine Au J (Sub.of_eq ?_)
 rw[List.length_map,A0 O O];rfl
theorem Vf (l:List Rec) (h0:l≠[]) (hl:l.length≤1000000):Ct Tryz.prog 128 [.t (.slice .any 2 (l.map Bu))] [] (.t (.slice .any 2 (l.map Bu))) []:=by
 refine ct0 Ac Tryz.func128 J false J J ?_
 cases l with
 |nil=>exact absurd J h0
 |cons a r=>
  repeat'(first|refine An Ac J J J J J ?_|refine Ae Ac J J J ?_|refine Ag ?_|refine Ah ?_|refine Ai Ac J J ?_|(refine Af J (ht:=fun h=>?_) (hf:=fun h=>?_)<;>try exact prn)|refine Ao ?_|refine Ar ?_|refine NF Ac J J J J J J J J J J J J J (by simp at hl⊢;omega) ?_)
  refine Au J (Sub.of_eq ?_)
  simp[BA]
  exact List.take_of_length_le Z
theorem M2: ∀{l:List Batch} {b:Batch},l[l.length-1]?=some b→D3 l=Bo b
 |[],b,h=>by simp at h
 |[a],b,h=>by simp at h;subst h;rfl
 |a::c::r,b,h=>by
  have:(c::r)[(c::r).length-1]?=some b:=by simpa using h
  simp only[D3];exact M2 this
theorem P0 (o:Opn) (h1:1≤o.batches.length) (h2:o.batches.length≤8) (hm: ∀b∈o.batches,A1 b=true):Ct Tryz.prog 160 [.agg (Aj (Aw o))] [] (.t (.int .i64 (D3 o.batches))) []:=by
 have hlm:(o.batches.map Ap).length=o.batches.length:=List.length_map ..
 have hr:o.batches[o.batches.length-1]?=some (o.batches[o.batches.length-1]' O):=List.getElem?_eq_getElem _
 have hb:=hm _ (List.mem_of_getElem? hr)
 generalize o.batches[o.batches.length-1]' O=b at hr hb
 rw[M2 hr]
 refine ct0 Ac Tryz.func160 J false J J ?_
 have hw:IntKind.i64.wrap (((o.batches.map Ap).length:Int)-1)=((o.batches.length-1:Nat):Int):=by rw[hlm,A0 O O];omega
 repeat'(first|refine Ae Ac J J J ?_|refine Ag ?_|refine Ah ?_|refine Ai Ac J J ?_|refine Ar ?_|refine KN Ac J J J J J J J Aa (A2 Aa) J ?_|refine Ak Ac J J J J J J J (G5 b hb) J J ?_)
 exact Au J (Sub.of_eq J)
theorem Ab4 (o:Opn) (i:Nat) (b:Batch) (h1:1≤o.batches.length) (h2:o.batches.length≤8) (hm: ∀b∈o.batches,A1 b=true) (hb:A1 b=true) (hi:i<o.batches.length):
  Ct Tryz.prog 159 [.t (.int .i64 i),.agg (Aj (Ap b)),.t (.ptr (Aw o))] [] (.agg (Aj (A4 (Fs o i b)))) []:=by
 have hlm:(o.batches.map Ap).length=o.batches.length:=List.length_map ..
 have hbb:=AU hb
 have hne:b.recs≠[]:=fun e=>by rw[e]at hbb;simp at hbb
 have hw:IntKind.i64.wrap (((o.batches.map Ap).length:Int)-1)=((o.batches.length-1:Nat):Int):=by rw[hlm,A0 O O];omega
 refine ct0 Ac Tryz.func159 J false J J ?_
 repeat'(first|refine An Ac J J J J J ?_|refine Ae Ac J J J ?_|refine Ag ?_|refine Ah ?_|refine Ai Ac J J ?_|(refine Af J (ht:=fun h=>?_) (hf:=fun h=>?_)<;>try exact prn)|refine Ao ?_|refine Ar ?_|refine Ak Ac J J J J J J J (Vf b.recs hne O) J J ?_|refine Ak Ac J J J J J J J (P0 o h1 h2 hm) J J ?_)
 ·have e:i+1=o.batches.length:=by rw[hw]at h;omega
  refine Au J ?_
  simp only[Fs,e,if_true]
  repeat'(first|exact Sub.refl _|exact A6|exact Bp|exact trivial|refine B7 ?_|refine AK ?_|refine And.intro ?_ ?_)
 ·have e: ¬i+1=o.batches.length:=by rw[hw]at h;omega
  refine Au J ?_
  simp only[Fs,e,if_false]
  repeat'(first|exact Sub.refl _|exact A6|exact Bp|exact trivial|refine B7 ?_|refine AK ?_|refine And.intro ?_ ?_)
theorem Ads (o:Opn) (h1:1≤o.batches.length) (h2:o.batches.length≤8) (hm: ∀b∈o.batches,A1 b=true):
  Ct Tryz.prog 158 [.t (.slice .any 5 (o.batches.map Ap)),.t (.func (.func 159) [] [.ptr (Aw o)])] [] (.t (.slice .any 18 ((BC o).map A4))) []:=by
 have hlm:(o.batches.map Ap).length=o.batches.length:=List.length_map ..
 refine ct0 Ac Tryz.func158 J false J J ?_
 have hcn:(((o.batches.map Ap).length:Nat):Int)=((o.batches.length:Nat):Int):=by rw[hlm]
 repeat'(first|refine Ae Ac J J J ?_|refine Ag ?_|refine Ah ?_|refine Ai Ac J J ?_|refine Al ?_|refine NE Ac J J J J J J J (l:=0) J hcn J J O O ?_)
 refine AM (ι:=Nat) (fun i=>i≤o.batches.length) (fun i=>[(1,.t (.func (.func 159) [] [.ptr (Aw o)])),(5,.row 20 18 0 (((o.batches.take i).mapIdx (Fs o)).map A4).length),(11,.t (.slice .any 5 (o.batches.map Ap))),(12,.t (.int .i64 o.batches.length)),(13,.t (.int .i64 i))]) (fun i=>[(20,.grow 18 (((o.batches.take i).mapIdx (Fs o)).map A4))]) (fun i=>o.batches.length-i) 0 Z ?_ ?_
 ·exact AR [] (Ad J J (Ad J J (Ad J J (Ad J (by rw[hlm]) (Ad J J Aq))))) J
 rintro i hi
 by_cases hlt:i<o.batches.length
 ·have hr:o.batches[i]?=some o.batches[i]:=List.getElem?_eq_getElem hlt
  have hb:=hm o.batches[i] (List.getElem_mem hlt)
  generalize o.batches[i]=r at hr hb
  have ht:(o.batches.take (i+1)).mapIdx (Fs o)=(o.batches.take i).mapIdx (Fs o)++[Fs o i r]:=by
   rw[AL hr,List.mapIdx_append];simp;congr 1;omega
  repeat'(first|refine An Ac J J J J J ?_|refine Ae Ac J J J ?_|refine Ag ?_|refine Ah ?_|refine Ai Ac J J ?_|(refine Af J (ht:=fun h=>?_) (hf:=fun h=>?_)<;>try exact prn)|refine Al ?_|refine Ao ?_|refine AD Ac J J J J J J J (A2 Aa) J ?_|refine AN Ac J J J J J J J J J J J J J J (by simp[AW];omega) ?_|refine Ak Ac J J J J J J J (Ab4 o i r h1 h2 hm hb hlt) J J ?_)
  refine AF (i+1) hlt O [7] (Ad J J (Ad J ?_ (Ad J J (Ad J J (Ad J ?_ Aq))))) ?_
  ·rw[ht];simp[AW];rfl
  ·rw[A0 O O];rfl
  ·rw[ht];simp only[List.map_append,List.map_cons,List.map_nil];rfl
 ·repeat'(first|refine Ae Ac J J J ?_|refine Ag ?_|refine Ah ?_|refine Ai Ac J J ?_|(refine Af J (ht:=fun h=>?_) (hf:=fun h=>?_)<;>try exact prn)|refine AB ?_|refine Ar ?_)
  refine Au J ?_
  rw[List.take_of_length_le O]
  refine Sub.of_eq ?_
  simp[BA,BC]
  exact List.take_of_length_le Z
theorem LI: ∀{l:List Batch} {b:Batch},l[0]?=some b→HA l=b.seq
 |[],b,h=>by simp at h
 |a::r,b,h=>by simp at h;subst h;rfl
theorem YQ (o:Opn) (h:BZ o=true):Ct Tryz.prog 156 [.agg (Aj (Aw o))] [] (.t .nilIface) []:=by
 have hlm:(o.batches.map Ap).length=o.batches.length:=List.length_map ..
 simp only[BZ,Bool.and_eq_true,decide_eq_true_eq]at h
 obtain⟨⟨h1,h2⟩,hch⟩:=h
 have hr0:o.batches[0]?=some (o.batches[0]' O):=List.getElem?_eq_getElem _
 have hf:=LI hr0
 rw[hf]at hch
 generalize o.batches[0]' O=b0' at hr0 hch
 refine ct0 Ac Tryz.func156 J false J J ?_
 repeat'(first|refine Ae Ac J J J ?_|refine Ag ?_|refine Ah ?_|refine Ai Ac J J ?_|(refine AP J J J J J (ht:=fun h=>?_) (hf:=fun h=>?_)<;>try exact prn)|(refine Af J (ht:=fun h=>?_) (hf:=fun h=>?_)<;>try exact prn)|refine Al ?_|refine Ao ?_|refine AD Ac J J J J J J J (A2 Aa) J ?_)
 refine AM (ι:=Nat×Int) (fun p=>p.1≤o.batches.length∧Cj o.pid o.epoch p.2 (o.batches.drop p.1)=true) (fun p=>[(1,.ref 2 0),(3,.t (.int .i64 p.2)),(25,.t (.slice .any 5 (o.batches.map Ap))),(26,.t (.int .i64 o.batches.length)),(27,.t (.int .i64 p.1))]) (fun _=>[(2,.cells (Aj (Aw o)))]) (fun p=>o.batches.length-p.1) (0,b0'.seq) ⟨by simp,hch⟩ ?_ ?_
 ·exact AR [] (Ad J J (Ad J J (Ad J J (Ad J (by rw[hlm]) (Ad J J Aq))))) J
 rintro⟨i,next⟩ ⟨hi,hc⟩
 simp only at hi hc
 by_cases hlt:i<o.batches.length
 ·have hr:o.batches[i]?=some o.batches[i]:=List.getElem?_eq_getElem hlt
  generalize o.batches[i]=r at hr
  rw[BE hr]at hc
  simp only[Cj,Bool.and_eq_true,decide_eq_true_eq]at hc
  obtain⟨⟨⟨⟨⟨c1,c2⟩,c3⟩,c4⟩,c5⟩,c6⟩:=hc
  have hbb:=AU c1
  have cm:Ct Tryz.prog 37 [.agg (Aj (Ap r))] [] (.t (.bool true)) []:=c1▸GV r O
  repeat'(first|refine An Ac J J J J J ?_|refine Ae Ac J J J ?_|refine Ag ?_|refine Ah ?_|refine Ai Ac J J ?_|(refine AP J J J J J (ht:=fun h=>?_) (hf:=fun h=>?_)<;>try exact prn)|(refine Af J (ht:=fun h=>?_) (hf:=fun h=>?_)<;>try exact prn)|refine Al ?_|refine Ao ?_|refine AB ?_|refine AD Ac J J J J J J J (A2 Aa) J ?_|refine Ak Ac J J J J J J J (cm) J J ?_|refine Ak Ac J J J J J J J (G5 r c1) J J ?_)
  all_goals try(exfalso;simp_all;done)
  refine AF (i+1,Bo r) ⟨hlt,c6⟩ (by simp;omega) [5] (Ad J J (Ad J J (Ad J J (Ad J J (Ad J ?_ Aq))))) J
  rw[A0 O O];rfl
 ·repeat'(first|refine Ae Ac J J J ?_|refine Ag ?_|refine Ah ?_|refine Ai Ac J J ?_|(refine Af J (ht:=fun h=>?_) (hf:=fun h=>?_)<;>try exact prn)|refine AB ?_|refine Ar ?_)
  exact Au J (Sub.of_eq J)
theorem JW {pid epoch:Int}: ∀{l:List Batch} {next:Int},Cj pid epoch next l=true→ ∀b∈l,A1 b=true
 |[],_,_,b,hb=>by simp at hb
 |a::r,next,h,b,hb=>by
  simp only[Cj,Bool.and_eq_true]at h
  simp only[List.mem_cons]at hb
  rcases hb with rfl|hb
  ·exact h.1.1.1.1.1
  ·exact JW h.2 b hb
theorem JU (o:Opn) (h:BZ o=true):Ct Tryz.prog 96 [.agg (Aj (Aw o))] [] (.tuple [.t (.slice .any 18 ((BC o).map A4)),.t (.int .i64 0)]) []:=by
 have h':=h
 simp only[BZ,Bool.and_eq_true,decide_eq_true_eq]at h'
 obtain⟨⟨h1,h2⟩,hch⟩:=h'
 refine ct0 Ac Tryz.func96 J false J J ?_
 refine Ah ?_
 refine Ai Ac J J ?_
 repeat'(first|refine Ae Ac J J J ?_|refine Ag ?_)
 refine Tr.freezeBox (cs:=Aw o) 1 2 J J J J ?_
 repeat'(first|refine Ae Ac J J J ?_|refine Ag ?_|refine Ah ?_|refine Ai Ac J J ?_|(refine Af J (ht:=fun h=>?_) (hf:=fun h=>?_)<;>try exact prn)|refine Ao ?_|refine Ar ?_|refine Ak Ac J J J J J J J (YQ o h) J J ?_|refine Ak Ac J J J J J J J (Ads o h1 h2 (JW hch)) J J ?_)
 exact Au J (Sub.of_eq J)
end Go.Proofs.YtpdmaenhenfofaaGreatDoor
namespace Go.Proofs.YtpdmaenhenfofaaGreatDoor
open Go.Am
attribute [local irreducible] Decidable.decide
set_option maxRecDepth 100000
set_option maxHeartbeats 1000000
theorem Abp (name:Bs) (l:List Entry) (hl:l.length≤1000000) (hsm: ∀x∈l,DV x) (hne:l≠[]) (hall:l.all B9=true):Ct Tryz.prog 11 [.t (.str name),.t (.slice .any 18 (l.map A4))] [] (.tuple [.row 86 4 0 ((CX name l).map BV).length,.t (.int .i64 0)]) [(86,.grow 4 ((CX name l).map BV))]:=by
 refine ct1 Ac Tryz.func11 J J ?_
 have cl:=O2 l hl hsm
 ·simp only[if_pos hall]at cl
  have hlm:((l.map AH).map DE).length=l.length:=by simp
  repeat'(first|refine Ae Ac J J J ?_|refine Ag ?_|refine Ah ?_|refine Ai Ac J J ?_|(refine AP J J J J J (ht:=fun h=>?_) (hf:=fun h=>?_)<;>try exact prn)|(refine Af J (ht:=fun h=>?_) (hf:=fun h=>?_)<;>try exact prn)|refine Al ?_|refine Ao ?_|refine Ar ?_|refine Ak Ac J J J J J J J (cl) J J ?_)
  ·exact absurd (List.eq_nil_of_length_eq_zero O) hne
  refine Tr.nilRow 8 43 4 J J ?_
  refine AM (ι:=Nat) (fun i=>i≤l.length) (fun i=>[(0,.t (.str name)),(8,.row 86 4 0 (((l.take i).map (KJ name)).map BV).length),(25,.t (.slice .any 1 ((l.map AH).map DE))),(26,.t (.int .i64 l.length)),(27,.t (.int .i64 i))]) (fun i=>[(86,.grow 4 (((l.take i).map (KJ name)).map BV))]) (fun i=>l.length-i) 0 Z ?_ ?_
  ·exact AR [] (Ad J J (Ad J J (Ad J J (Ad J (by rw[hlm]) (Ad J J Aq))))) J
  rintro i hi
  by_cases hlt:i<l.length
  ·have hr:l[i]?=some l[i]:=List.getElem?_eq_getElem hlt
   have hm:=List.all_eq_true.1 hall l[i] (List.getElem_mem hlt)
   generalize l[i]=r at hr hm
   have hr2:(l.map AH)[i]?=some (AH r):=by simp[hr]
   repeat'(first|refine An Ac J J J J J ?_|refine Ae Ac J J J ?_|refine Ag ?_|refine Ah ?_|refine Ai Ac J J ?_|(refine Af J (ht:=fun h=>?_) (hf:=fun h=>?_)<;>try exact prn)|refine Al ?_|refine Ao ?_|refine AD Ac J J J J J J J (A2 Aa) J ?_|refine AN Ac J J J J J J J J J J J J J J (by simp[AW];omega) ?_|refine Ak Ac J J J J J J J (M8 _ (Fr hm)) J J ?_)
   refine AF (i+1) hlt O [] (Ad J J (Ad J ?_ (Ad J J (Ad J J (Ad J ?_ Aq))))) ?_
   ·rw[AL hr];simp[AW]
   ·rw[A0 O O];rfl
   ·rw[AL hr];simp[AW,SU,BV,KJ,FZ,DO]
  ·repeat'(first|refine An Ac J J J J J ?_|refine Ae Ac J J J ?_|refine Ag ?_|refine Ah ?_|refine Ai Ac J J ?_|(refine Af J (ht:=fun h=>?_) (hf:=fun h=>?_)<;>try exact prn)|refine AB ?_|refine Ar ?_|refine AN Ac J J J J J J J J J J J J J J (by simp[AW];omega) ?_)
   rw[List.take_of_length_le O]
   have eW:((l.map (KJ name)).map BV)++AW 4 1 [T.int .i8 1,.str name,.str [],.int .i64 0]=(CX name l).map BV:=by simp[CX,AW,BV]
   refine BR [] J J ?_ (Sub.of_eq ?_)
   ·rw[←eW];rfl
   ·rw[←eW];rfl
end Go.Proofs.YtpdmaenhenfofaaGreatDoor
