/- Contracts and laws, joined: Uw, Ux, Uy. No condition beside those that each theorem names. -/
import Derived.Test.YtpdmaenhenfofaaGreatDoorZM10
import Derived.Test.YtpdmaenhenfofaaGreatDoorZJ22
import Derived.Test.YtpdmaenhenfofaaGreatDoorZJ10
import Derived.Test.YtpdmaenhenfofaaGreatDoorZJ19
import Derived.Test.YtpdmaenhenfofaaGreatDoorZJ16
import Derived.Test.YtpdmaenhenfofaaGreatDoorZJ7
import Derived.Test.YtpdmaenhenfofaaGreatDoorZJ13
set_option linter.unusedVariables false
set_option linter.unusedSimpArgs false
namespace Go.Proofs.YtpdmaenhenfofaaGreatDoor
open Go.Am
attribute [local irreducible] Decidable.decide
set_option maxRecDepth 100000
set_option maxHeartbeats 1000000
theorem OY (n:Nat) (hn:n≤9):Ct Tryz.prog 86 [.t (.int .i64 (n:Int))] [] (.t (.str [UInt8.ofNat (48+n)])) []:=by
 have hw:IntKind.i64.wrap (48+(n:Int))=((48+n:Nat):Int):=by rw[A0 O O];omega
 have hb:IntKind.u8.wrap (IntKind.i64.wrap (48+(n:Int)))=(((UInt8.ofNat (48+n)).toNat:Nat):Int):=by
  rw[hw]
  have h1:(UInt8.ofNat (48+n)).toNat=48+n:=by simp[UInt8.toNat_ofNat'];omega
  rw[h1]
  simp[IntKind.wrap,IntKind.bits,IntKind.signed];omega
 have he:([[T.int .u8 (IntKind.u8.wrap (IntKind.i64.wrap (48+(n:Int))))]]:List (List T))=Dz [UInt8.ofNat (48+n)]:=by rw[hb];rfl
 refine ct0 Ac Tryz.func86 J false J J ?_
 repeat'(first|refine An Ac J J J J J ?_|refine Ae Ac J J J ?_|refine Ag ?_|refine Ah ?_|refine Ai Ac J J ?_|refine Ar ?_|refine Fz Ac J J J J J J he J ?_)
 all_goals exact Au J (Sub.of_eq J)
theorem Ys (e:Int) (he:e=0∨e=1):Ct Tryz.prog 85 [.t (.int .i8 e)] [] (.t (.str [if e=0 then 105 else 98])) []:=by
 rcases he with rfl|rfl
 all_goals refine ct0 Ac Tryz.func85 J false J J ?_
 all_goals repeat'(first|refine Ae Ac J J J ?_|refine Ag ?_|refine Ah ?_|refine Ai Ac J J ?_|(refine Af J (ht:=fun h=>?_) (hf:=fun h=>?_)<;>try exact prn)|refine Al ?_|refine Ar ?_)
 all_goals try(exfalso;omega)
 all_goals exact Au J (Sub.of_eq J)
theorem TX (e:Int) (he:e=0∨e=1):Ct Tryz.prog 47 [.t (.int .i8 e),.t (.int .i64 1)] [] (.t (.str (DH e 1))) []:=by
 have cl:=Ys e he
 have cd:=OY 1 O
 rcases he with rfl|rfl
 all_goals refine ct0 Ac Tryz.func47 J false J J ?_
 all_goals repeat'(first|refine Ae Ac J J J ?_|refine Ag ?_|refine Ah ?_|refine Ai Ac J J ?_|(refine AP J J J J J (ht:=fun h=>?_) (hf:=fun h=>?_)<;>try exact prn)|(refine Af J (ht:=fun h=>?_) (hf:=fun h=>?_)<;>try exact prn)|refine Ao ?_|refine Ar ?_|refine Ak Ac J J J J J J J (cl) J J ?_|refine Ak Ac J J J J J J J (cd) J J ?_)
 all_goals exact Au J (Sub.of_eq (by simp[DH]))
theorem XN (p:Nat) (h1:1≤p) (h2:p≤8):Ct Tryz.prog 50 [.t (.int .i64 1),.t (.int .i64 (p:Int))] [] (.t (.str (MQ 1 p))) []:=by
 have c1:=OY 1 O
 have cp:=OY p O
 refine ct0 Ac Tryz.func50 J false J J ?_
 repeat'(first|refine Ae Ac J J J ?_|refine Ag ?_|refine Ah ?_|refine Ai Ac J J ?_|(refine AP J J J J J (ht:=fun h=>?_) (hf:=fun h=>?_)<;>try exact prn)|(refine Af J (ht:=fun h=>?_) (hf:=fun h=>?_)<;>try exact prn)|refine Ao ?_|refine Ar ?_|refine Ak Ac J J J J J J J (c1) J J ?_|refine Ak Ac J J J J J J J (cp) J J ?_)
 all_goals exact Au J (Sub.of_eq (by simp[MQ]))
end Go.Proofs.YtpdmaenhenfofaaGreatDoor
namespace Go.Proofs.YtpdmaenhenfofaaGreatDoor
open Go.Am
attribute [local irreducible] Decidable.decide
set_option maxRecDepth 100000
set_option maxHeartbeats 1000000
structure FileIs (fs:List Fil) (name:Bs) (es:List Entry):Prop where
 no:es=[]→H7 fs name=false
 yes:es≠[]→H7 fs name=true∧(H8 fs name).b=(es.map AH).flatMap BB
 ok: ∀x∈es,WE x∧B9 x=true
 len:es.length≤100000
 bytes:((es.map AH).flatMap BB).length≤1000000
theorem M0 {fs:List Fil} {name:Bs} {es:List Entry} (h:FileIs fs name es) (hl:fs.length≤1000000):Ct Tryz.prog 46 [.agg (Aj (CC fs)),.t (.str name)] [] (.tuple [.t (.slice .any 1 ((es.map AH).map DE)),.t (.int .i64 0)]) []:=by
 by_cases he:es=[]
 ·subst he
  exact Yr fs name hl (h.no J)
 ·refine Yq fs name (es.map AH) hl (h.yes he) (fun x hx=>?_) h.bytes
  obtain⟨y,hy,rfl⟩:=List.mem_map.1 hx
  exact Fr (h.ok y hy).2
theorem Ws (fs:List Fil) (es:List Entry) (p:Part) (hl:fs.length≤64) (h:FileIs fs (DH 0 1) es) (hF:F1 Cq es p):Ct Tryz.prog 27 [.agg (Aj (CC fs)),.t (.int .i8 0)] [] (.tuple [.agg (Aj (A5 p)),.t (.bool true)]) []:=by
 have cn:=TX 0 (.inl J)
 have cl:=M0 h O
 have ca:=SI es h.ok (by have:=h.len;omega)
 have cf:=YB es p hF (by have:=h.len;omega)
 refine ct0 Ac Tryz.func27 J false J J ?_
 repeat'(first|refine An Ac J J J J J ?_|refine Ae Ac J J J ?_|refine Ag ?_|refine Ah ?_|refine Ai Ac J J ?_|(refine AP J J J J J (ht:=fun h=>?_) (hf:=fun h=>?_)<;>try exact prn)|(refine Af J (ht:=fun h=>?_) (hf:=fun h=>?_)<;>try exact prn)|refine Ao ?_|refine Ar ?_|refine A9 (id:=1) (m:=8) Ac Y J J J J ?_|refine AA J J J J ?_|refine AO J J J J J (cn) J J ?_|refine AO J J J J J (cl) J J ?_|refine Ak Ac J J J J J J J (ca) J J ?_|refine Ak Ac J J J J J J J (cf) J J ?_)
 all_goals try(exfalso;omega)
 all_goals exact Au J (AK ⟨Sub.refl _,BJ (by first|rfl|simp),trivial⟩)
def CJ (sd:Nat→List Batch) (k:Nat):List (Int×List Batch):=(List.range k).filterMap (fun j=>if sd (j+1)=[]then none else some (((j+1:Nat):Int),sd (j+1)))
theorem EP (sd:Nat→List Batch) (k:Nat):CJ sd (k+1)=CJ sd k++(if sd (k+1)=[]then[]else[(((k+1:Nat):Int),sd (k+1))]):=by
 unfold CJ
 rw[List.range_succ,List.filterMap_append]
 by_cases h:sd (k+1)=[]<;>simp[h]
theorem IR (sd:Nat→List Batch): ∀k,(CJ sd k).length≤k
 |0=>by simp[CJ]
 |k+1=>by
  have:=IR sd k
  rw[EP,List.length_append]
  by_cases h:sd (k+1)=[]<;>simp[h]<;>omega
theorem VF (sd:Nat→List Batch) (k:Nat): ∀s∈CJ sd k,s.1<((k+1:Nat):Int):=fun s hs=>by
 unfold CJ at hs
 obtain⟨j,hj,he⟩:=List.mem_filterMap.1 hs
 rw[List.mem_range]at hj
 by_cases h:sd (j+1)=[]
 ·simp[h]at he
 ·simp[h]at he;subst he;simp only;omega
theorem MP (sd:Nat→List Batch): ∀k,(CJ sd k).Pairwise (fun a b=>a.1<b.1)
 |0=>List.Pairwise.nil
 |k+1=>by
  rw[EP,List.pairwise_append]
  refine⟨MP sd k,by by_cases h:sd (k+1)=[]<;>simp[h],fun a ha b hb=>?_⟩
  by_cases h:sd (k+1)=[]
  ·simp[h]at hb
  ·simp[h]at hb;subst hb;exact VF sd k a ha
theorem Wq (fs:List Fil) (es:List Entry) (sd:Nat→List Batch) (p r:Part) (hl:fs.length≤64) (h:FileIs fs (DH 1 1) es) (hs: ∀k:Nat,1≤k→k≤8→FileIs fs (MQ 1 k) ((sd k).map eD)) (hF:F2 Cq none es p none) (hS:SS p (CJ sd 8) r):Ct Tryz.prog 27 [.agg (Aj (CC fs)),.t (.int .i8 1)] [] (.tuple [.agg (Aj (A5 r)),.t (.bool true)]) []:=by
 have cn:=TX 1 (.inr J)
 have cl:=M0 h O
 have ca:=SI es h.ok (by have:=h.len;omega)
 have cf:=YA es (CJ sd 8) p r hF (by have:=h.len;omega) hS (by have:=IR sd 8;omega) (MP sd 8)
 refine ct0 Ac Tryz.func27 J false J J ?_
 repeat'(first|refine Ae Ac J J J ?_|refine Ag ?_|refine Ah ?_|refine Ai Ac J J ?_|(refine AP J J J J J (ht:=fun h=>?_) (hf:=fun h=>?_)<;>try exact prn)|(refine Af J (ht:=fun h=>?_) (hf:=fun h=>?_)<;>try exact prn)|refine Al ?_|refine Ao ?_|refine A9 (id:=1) (m:=8) Ac Y J J J J ?_|refine AA J J J J ?_|refine AO J J J J J (cn) J J ?_|refine AO J J J J J (cl) J J ?_|refine Ak Ac J J J J J J J (ca) J J ?_)
 all_goals try(exfalso;omega)
 refine Tr.nilRow 12 79 2 J J ?_
 refine AM (ι:=Nat) (fun i=>i≤8) (fun i=>[(2,.ref 4 0),(4,.ref 8 0),(8,.t (.slice .any 18 (es.map A4))),(12,.row 158 2 0 ((CJ sd i).map PV).length),(13,.t (.int .i64 ((i+1:Nat):Int)))]) (fun i=>[(158,.grow 2 ((CJ sd i).map PV)),(8,.cells (Aj F8.zero)),(4,.cells (Aj (CC fs)))]) (fun i=>8-i) 0 O ?_ ?_
 ·exact AR [] (Ad J J (Ad J J (Ad J J (Ad J J (Ad J J Aq))))) J
 rintro i hi
 have hsl:=IR sd i
 have hslm:((CJ sd i).map PV).length=(CJ sd i).length:=List.length_map ..
 by_cases hlt:i<8
 ·have hfi:=hs (i+1) O O
  have cs:=XN (i+1) O O
  have cl2:=M0 hfi O
  have ca2:=SI ((sd (i+1)).map eD) hfi.ok (by have:=hfi.len;omega)
  have hw:IntKind.i64.wrap (((i+1:Nat):Int)+1)=((i+1+1:Nat):Int):=by rw[A0 O O];rfl
  have hsu:=EP sd i
  have hll:((((sd (i+1)).map eD).map AH).map DE).length=(sd (i+1)).length:=by simp
  by_cases h0:sd (i+1)=[]
  ·rw[if_pos h0,List.append_nil]at hsu
   have hz:(sd (i+1)).length=0:=by rw[h0];rfl
   repeat'(first|refine Ae Ac J J J ?_|refine Ag ?_|refine Ah ?_|refine Ai Ac J J ?_|(refine Af J (ht:=fun h=>?_) (hf:=fun h=>?_)<;>try exact prn)|refine Al ?_|refine Ao ?_|refine AB ?_|refine A9 (id:=12) (m:=8) Ac Y J J J J ?_|refine AA J J J J ?_|refine AO J J J J J (cs) J J ?_|refine AO J J J J J (cl2) J J ?_)
   all_goals try(exfalso;omega)
   all_goals refine AF (i+1) O O [] (Ad J J (Ad J J (Ad J J (Ad J (by rw[hsu]) (Ad J (by rw[hw]) Aq))))) (by rw[hsu];rfl)
  ·rw[if_neg h0]at hsu
   have hz:0<(sd (i+1)).length:=List.length_pos_iff.2 h0
   repeat'(first|refine An Ac J J J J J ?_|refine Ae Ac J J J ?_|refine Ag ?_|refine Ah ?_|refine Ai Ac J J ?_|(refine AP J J J J J (ht:=fun h=>?_) (hf:=fun h=>?_)<;>try exact prn)|(refine Af J (ht:=fun h=>?_) (hf:=fun h=>?_)<;>try exact prn)|refine Al ?_|refine Ao ?_|refine AN Ac J J J J J J J J J J J J J J (by simp[AW];omega) ?_|refine A9 (id:=12) (m:=8) Ac Y J J J J ?_|refine AA J J J J ?_|refine AO J J J J J (cs) J J ?_|refine AO J J J J J (cl2) J J ?_|refine Ak Ac J J J J J J J (ca2) J J ?_)
   all_goals try(exfalso;omega)
   all_goals refine AF (i+1) O O [] (Ad J J (Ad J J (Ad J J (Ad J (by rw[hsu,List.map_append];rfl) (Ad J (by rw[hw]) Aq))))) (by rw[hsu,List.map_append];rfl)
 ·have hin:i=8:=by omega
  subst hin
  have hfz:BA 158 2 ((CJ sd 8).map PV) (.row 158 2 0 ((CJ sd 8).map PV).length)=.t (.slice .any 2 ((CJ sd 8).map PV)):=JL _ _ _ _ J
  repeat'(first|refine An Ac J J J J J ?_|refine Ae Ac J J J ?_|refine Ag ?_|refine Ah ?_|refine Ai Ac J J ?_|(refine Af J (ht:=fun h=>?_) (hf:=fun h=>?_)<;>try exact prn)|refine AB ?_|refine Ar ?_|refine E0 82 158 J J J hfz ?_|refine Ak Ac J J J J J J J (cf) J J ?_)
  all_goals try(exfalso;omega)
  all_goals exact Au J (AK ⟨Sub.refl _,BJ (by first|rfl|simp),trivial⟩)
end Go.Proofs.YtpdmaenhenfofaaGreatDoor
namespace Go.Proofs.YtpdmaenhenfofaaGreatDoor
open Go.Am
attribute [local irreducible] Decidable.decide
set_option maxRecDepth 100000
set_option maxHeartbeats 1000000
theorem Aak:Ct Tryz.prog 25 [.t (.int .i64 65536)] [] (.tuple [.agg (Aj (CC [])),.t (.int .i64 0)]) []:=by
 refine ct0 Ac Tryz.func25 J false J J ?_
 repeat'(first|refine An Ac J J J J J ?_|refine Ae Ac J J J ?_|refine Ag ?_|refine Ah ?_|refine Ai Ac J J ?_|(refine AP J J J J J (ht:=fun h=>?_) (hf:=fun h=>?_)<;>try exact prn)|(refine Af J (ht:=fun h=>?_) (hf:=fun h=>?_)<;>try exact prn)|refine Ao ?_|refine Ar ?_)
 all_goals try(exfalso;omega)
 all_goals refine Au J (AK ⟨B7 ?_,Sub.refl _,trivial⟩)
 all_goals exact⟨A6,Sub.refl _,Sub.refl _,Sub.refl _,trivial⟩
structure FoldsLaw (e:Int) (l:List Act2) (Q:Nat→Part→List Fil→Prop):Prop where
 zero:Q 0 Cq []
 small: ∀{i:Nat} {p:Part} {fs:List Fil},Q i p fs→Bt p∧POk p
 recs: ∀{i:Nat} {a:Act2},l[i]?=some a→a.b.recs.length≤1000000
 bad: ∀{i:Nat} {p:Part} {fs:List Fil} {a:Act2},Q i p fs→l[i]?=some a→(Cw e p a).e≠0→Q (i+1) (Cw e p a).part fs
 good: ∀{i:Nat} {p:Part} {fs:List Fil} {a:Act2},Q i p fs→l[i]?=some a→(Cw e p a).e=0→PD fs (Cw e p a).w∧(Cw e p a).w.length≤1000000∧((Ht fs (Cw e p a).w).2=none→Q (i+1) (Cw e p a).part (Ht fs (Cw e p a).w).1)
 fold: ∀{i:Nat} {p:Part} {fs:List Fil},Q i p fs→Ct Tryz.prog 27 [.agg (Aj (CC fs)),.t (.int .i8 e)] [] (.tuple [.agg (Aj (A5 p)),.t (.bool true)]) []
theorem Nc (p:Part) (hs:Bt p) (hp:POk p):Ct Tryz.prog 28 [.agg (Aj (A5 p))] [] (.t (.int .i64 0)) []:=by
 have cc:=R3 p hs
 rw[show enT p=.nilIface by simp[enT,Aoo.2 hp]]at cc
 refine ct0 Ac Tryz.func28 J false J J ?_
 repeat'(first|refine Ae Ac J J J ?_|refine Ag ?_|refine Ah ?_|refine Ai Ac J J ?_|refine Ar ?_|refine Ak Ac J J J J J J J (cc) J J ?_|refine Ak Ac J J J J J J J (Ww) J J ?_)
 all_goals exact Au J (Sub.of_eq J)
theorem OH (e:Int) (l:List Act2) (Q:Nat→Part→List Fil→Prop) (he:e=0∨e=1) (hg:DP l=false) (hL:FoldsLaw e l Q):Ct Tryz.prog 8 [.t (.int .i8 e),.t (.slice .any 9 (l.map E9))] [] (.t (.bool true)) []:=by
 have cg:=K8 l
 rw[hg]at cg
 have hlm:(l.map E9).length=l.length:=List.length_map ..
 have hle:(l.length:Int)≤60:=by simp only[DP,Bool.or_eq_false_iff,decide_eq_false_iff_not]at hg;omega
 refine ct0 Ac Tryz.func8 J false J J ?_
 repeat'(first|refine An Ac J J J J J ?_|refine Ae Ac J J J ?_|refine Ag ?_|refine Ah ?_|refine Ai Ac J J ?_|(refine AZ J J J J J (ht:=fun h=>?_) (hf:=fun h=>?_)<;>try exact prn)|(refine AP J J J J J (ht:=fun h=>?_) (hf:=fun h=>?_)<;>try exact prn)|(refine Af J (ht:=fun h=>?_) (hf:=fun h=>?_)<;>try exact prn)|refine Al ?_|refine Ao ?_|refine Ak Ac J J J J J J J (cg) J J ?_|refine Ak Ac J J J J J J J (Aak) J J ?_)
 all_goals try(exfalso;omega)
 all_goals refine Tr.weakC (cs':=Aj (A5 Cq)) 14 J ⟨Sub.refl _,Sub.refl _,A6,A6,A6,trivial⟩ ?_
 all_goals refine AM (ι:=Nat×Part×List Fil) (fun x=>x.1≤l.length∧Q x.1 x.2.1 x.2.2) (fun x=>[(0,.t (.int .i8 e)),(5,.ref 10 0),(7,.ref 14 0),(35,.t (.slice .any 9 (l.map E9))),(36,.t (.int .i64 ((l.map E9).length:Int))),(37,.t (.int .i64 x.1))]) (fun x=>[(14,.cells (Aj (A5 x.2.1))),(10,.cells (Aj (CC x.2.2)))]) (fun x=>l.length-x.1) (0,Cq,[]) ⟨by simp,hL.zero⟩ ?_ ?_
 all_goals first
  |exact AR [] (Ad J J (Ad J J (Ad J J (Ad J J (Ad J J (Ad J J Aq)))))) J
  |skip
 all_goals rintro⟨i,p,fs⟩ ⟨hi,hQ⟩
 all_goals simp only at hi hQ
 all_goals(
  by_cases hlt:i<l.length
  ·have hr:l[i]?=some l[i]:=List.getElem?_eq_getElem hlt
   generalize l[i]=a at hr
   have hsm:=(hL.small hQ).1
   have cd:=Aer e p a hsm (hL.recs hr)
   have hbad:=hL.bad hQ hr
   have hgood:=hL.good hQ hr
   generalize Cw e p a=r at cd hbad hgood
   unfold PO.av at cd
   by_cases hz:r.e=0
   ·obtain⟨h1,h2,h3⟩:=hgood hz
    have c5:=Aes fs r.w h1 h2
    cases hw:(Ht fs r.w).2 with
    |none=>
     have hq2:=h3 hw
     have cf:=hL.fold hq2
     obtain⟨q1,q2⟩:=hL.small hq2
     have cs:=MR r.part q1
     have ck:=Nc r.part q1 q2
     unfold ZC at c5
     rw[hw]at c5
     simp only at c5
     generalize(Ht fs r.w).1=gs at*
     repeat'(first|refine An Ac J J J J J ?_|refine Ae Ac J J J ?_|refine Ag ?_|refine Ah ?_|refine Ai Ac J J ?_|(refine AP J J J J J (ht:=fun h=>?_) (hf:=fun h=>?_)<;>try exact prn)|(refine Af J (ht:=fun h=>?_) (hf:=fun h=>?_)<;>try exact prn)|refine Al ?_|refine Ao ?_|refine AD Ac J J J J J J J (A2 Aa) J ?_|refine Ak Ac J J J J J J J (cd) J J ?_|refine Ak Ac J J J J J J J (c5) J J ?_|refine Ak Ac J J J J J J J (cf) J J ?_|refine Ak Ac J J J J J J J (cs) J J ?_|refine Ak Ac J J J J J J J (ck) J J ?_)
     all_goals try(exfalso;omega)
     all_goals refine AF (i+1,r.part,gs) ⟨hlt,hq2⟩ (by simp;omega) [9,10,14,18] (Ad J J (Ad J J (Ad J J (Ad J J (Ad J J (Ad J (by rw[A0 O O];rfl) Aq)))))) J
    |some w=>
     unfold ZC at c5
     rw[hw]at c5
     simp only at c5
     repeat'(first|refine An Ac J J J J J ?_|refine Ae Ac J J J ?_|refine Ag ?_|refine Ah ?_|refine Ai Ac J J ?_|(refine Af J (ht:=fun h=>?_) (hf:=fun h=>?_)<;>try exact prn)|refine Al ?_|refine Ao ?_|refine AD Ac J J J J J J J (A2 Aa) J ?_|refine Ak Ac J J J J J J J (cd) J J ?_|refine Ak Ac J J J J J J J (c5) J J ?_|refine Ak Ac J J J J J J J (KL) J J ?_)
     all_goals try(exfalso;omega)
     all_goals refine Ar ?_
     all_goals exact Au J (Sub.of_eq J)
   ·have hq2:=hbad hz
    have cf:=hL.fold hq2
    obtain⟨q1,q2⟩:=hL.small hq2
    have cs:=MR r.part q1
    have ck:=Nc r.part q1 q2
    repeat'(first|refine An Ac J J J J J ?_|refine Ae Ac J J J ?_|refine Ag ?_|refine Ah ?_|refine Ai Ac J J ?_|(refine AP J J J J J (ht:=fun h=>?_) (hf:=fun h=>?_)<;>try exact prn)|(refine Af J (ht:=fun h=>?_) (hf:=fun h=>?_)<;>try exact prn)|refine Al ?_|refine Ao ?_|refine AD Ac J J J J J J J (A2 Aa) J ?_|refine Ak Ac J J J J J J J (cd) J J ?_|refine Ak Ac J J J J J J J (cf) J J ?_|refine Ak Ac J J J J J J J (cs) J J ?_|refine Ak Ac J J J J J J J (ck) J J ?_)
    all_goals try(exfalso;omega)
    all_goals refine AF (i+1,r.part,fs) ⟨hlt,hq2⟩ (by simp;omega) [9,10,18] (Ad J J (Ad J J (Ad J J (Ad J J (Ad J J (Ad J (by rw[A0 O O];rfl) Aq)))))) J
  ·repeat'(first|refine Ae Ac J J J ?_|refine Ag ?_|refine Ah ?_|refine Ai Ac J J ?_|(refine Af J (ht:=fun h=>?_) (hf:=fun h=>?_)<;>try exact prn)|refine AB ?_|refine Ar ?_|refine Ak Ac J J J J J J J (KL) J J ?_)
   all_goals exact Au J (Sub.of_eq J))
end Go.Proofs.YtpdmaenhenfofaaGreatDoor
