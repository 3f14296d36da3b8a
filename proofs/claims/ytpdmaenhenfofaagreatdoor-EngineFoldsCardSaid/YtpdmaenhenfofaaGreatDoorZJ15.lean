/- Contracts and laws, joined: Tg, Th, Ti, Tj. No condition beside those that each theorem names. -/
import Derived.Test.YtpdmaenhenfofaaGreatDoorZM10
import Derived.Test.YtpdmaenhenfofaaGreatDoorZJ14
import Derived.Test.YtpdmaenhenfofaaGreatDoorZM11
set_option linter.unusedVariables false
set_option linter.unusedSimpArgs false
namespace Go.Proofs.YtpdmaenhenfofaaGreatDoor
open Go.Am
attribute [local irreducible] Decidable.decide
set_option maxRecDepth 100000
set_option maxHeartbeats 1000000
theorem Aef (e q:Int) (p:Part) (pid:Int) (yes:Bool) (hs:Bt p) (hgood:DQ e q p=false) (hany:p.opens.any (fun o=>decide (o.pid=pid))=false):
  Ct Tryz.prog 31 [.t (.int .i8 e),.t (.int .i64 q),.agg (Aj (A5 p)),.t (.int .i64 pid),.t (.bool yes)] [] (Wv p []) []:=by
 have hs':=hs
 obtain⟨s1,s2,s3,s4⟩:=hs'
 have cof:=Wa e q p hgood hs
 have cown:=Xl p hs
 have cf:=HG p.opens pid s2
 rw[hany]at cf
 refine ct0 Ac Tryz.func31 J false J J ?_
 repeat'(first|refine An Ac J J J J J ?_|refine Ae Ac J J J ?_|refine Ag ?_|refine Ah ?_|refine Ai Ac J J ?_|(refine Af J (ht:=fun h=>?_) (hf:=fun h=>?_)<;>try exact prn)|refine Ao ?_|refine Ar ?_|refine Ak Ac J J J J J J J (cof) J J ?_|refine A7 Ac [] [(28,66),(80,68)] J J J J J cown J J J J J ?_|refine EA Ac J J J (H4 J J) cf J J ?_)
 refine Au J (AK ⟨Sub.of_eq (Eq.trans (b:=BA 66 5 (p.rows.map AC) (BA 68 3 (p.opens.map Aw) (.agg [.t (.int .i64 p.start),.t (.int .i64 p.fin),.row 66 5 0 (p.rows.map AC).length,.row 68 3 0 (p.opens.map Aw).length,.t (.slice .any 4 (p.prods.map Av))]))) J ?_),A6,Sub.refl _,trivial⟩)
 have b1:Nat.beq 68 66=false:=rfl
 have b2:Nat.beq 66 68=false:=rfl
 have t1:(p.rows.map AC).take p.rows.length=p.rows.map AC:=List.take_of_length_le Z
 have t2:(p.opens.map Aw).take p.opens.length=p.opens.map Aw:=List.take_of_length_le Z
 simp[Wv,A5,Aj,BA,DD,b1,b2,t1,t2]
structure EO where
 part:Part
 w:List Wr
 e:Int
def EO.av (r:EO):AV:=.tuple [.agg (Aj (A5 r.part)),.t (.slice .any 4 (r.w.map BV)),.t (.int .i64 r.e)]
def End (e q:Int) (p:Part) (pid:Int) (yes:Bool):EO:=
 if DQ e q p=true then⟨Cq,[],2⟩
 else match p.opens.find? (fun o=>decide (o.pid=pid))with
  |none=>⟨p,[],0⟩
  |some o=>⟨Eb e p (Em (fun o=>decide (o.pid=pid)) p.opens).toNat o yes,PU e q o yes,0⟩
theorem Aiz (e q:Int) (p:Part) (pid:Int) (yes:Bool) (hs:Bt p):
  Ct Tryz.prog 31 [.t (.int .i8 e),.t (.int .i64 q),.agg (Aj (A5 p)),.t (.int .i64 pid),.t (.bool yes)] [] (End e q p pid yes).av []:=by
 cases hbad:DQ e q p with
 |true=>
  have cof:=Xn e q p hs
  obtain⟨h1,s,h2⟩:=VZ hbad
  have hr:End e q p pid yes=⟨Cq,[],2⟩:=by simp[End,hbad]
  rw[hr]
  rw[h1,h2]at cof
  refine ct0 Ac Tryz.func31 J false J J ?_
  repeat'(first|refine An Ac J J J J J ?_|refine Ae Ac J J J ?_|refine Ag ?_|refine Ah ?_|refine Ai Ac J J ?_|(refine Af J (ht:=fun h=>?_) (hf:=fun h=>?_)<;>try exact prn)|refine Ar ?_|refine Ak Ac J J J J J J J (cof) J J ?_|refine Ak Ac J J J J J J J (HH s 2) J J ?_)
  exact Au J (AK ⟨Gt,A6,Sub.refl _,trivial⟩)
 |false=>
  cases hf:p.opens.find? (fun o=>decide (o.pid=pid))with
  |none=>
   have hr:End e q p pid yes=⟨p,[],0⟩:=by simp[End,hbad,hf]
   rw[hr]
   have hno:p.opens.any (fun o=>decide (o.pid=pid))=false:=by
    rw[List.any_eq_false];intro o ho;simpa using List.find?_eq_none.1 hf o ho
   exact Aef e q p pid yes hs hbad hno
  |some o=>
   obtain⟨k,hk,hidx,hany⟩:=OK hf
   have hpid:o.pid=pid:=by simpa using List.find?_some hf
   have hr:End e q p pid yes=⟨Eb e p k o yes,PU e q o yes,0⟩:=by simp[End,hbad,hf,hidx]
   rw[hr]
   exact Aee e q p pid yes hs hbad k o hk hidx hany hpid
end Go.Proofs.YtpdmaenhenfofaaGreatDoor
namespace Go.Proofs.YtpdmaenhenfofaaGreatDoor
open Go.Am
attribute [local irreducible] Decidable.decide
set_option maxRecDepth 100000
set_option maxHeartbeats 1000000
theorem XR (fnum:Nat) (cap:List T) (n k:Nat) (hn:n≤1000000000) (hk:k≤n) (hf: ∀i:Nat,i<n→Ct Tryz.prog fnum (.t (.int .i64 i)::Aj cap) [] (.t (.bool (decide (k≤i)))) []) (hfr:Eo (Aj cap)=true):
  Ct Tryz.prog 181 [.t (.int .i64 n),.t (.func (.func fnum) [] cap)] [] (.t (.int .i64 k)) []:=by
 refine ct0 Ac Tryz.func181 J false J J ?_
 repeat'(first|refine Ae Ac J J J ?_|refine Ag ?_|refine Ah ?_|refine Ai Ac J J ?_|refine Al ?_)
 refine AM (ι:=Nat×Nat) (fun x=>x.1≤k∧k≤x.2∧x.2≤n) (fun x=>[(1,.t (.func (.func fnum) [] cap)),(5,.t (.int .i64 x.1)),(6,.t (.int .i64 x.2))]) (fun _=>[]) (fun x=>x.2-x.1) (0,n) ⟨by omega,hk,by omega⟩ ?_ ?_
 ·exact AR [] (Ad J J (Ad J J (Ad J J Aq))) J
 rintro⟨i,j⟩ ⟨h1,h2,h3⟩
 simp only at h1 h2 h3
 by_cases hlt:i<j
 ·have hw:IntKind.i64.wrap ((i:Int)+j)=((i+j:Nat):Int):=by rw[A0 O O];rfl
  have hc:=hf ((i+j)/2) O
  have hX:IntKind.i64.wrap ((IntKind.u64.wrap (IntKind.i64.wrap ((i:Int)+j))).fdiv (2^min (Int.toNat 1) IntKind.u64.bits))=(((i+j)/2:Nat):Int):=by
   rw[hw]
   have hu:IntKind.u64.wrap ((i+j:Nat):Int)=((i+j:Nat):Int):=by
    show((i+j:Nat):Int) % (2^64)=_
    omega
   have hm:(2:Int)^min (Int.toNat 1) IntKind.u64.bits=2:=rfl
   rw[hu,hm,Int.fdiv_eq_ediv_of_nonneg _ O,A0 O O]
   omega
  rw[←hX]at hc
  have hX2:IntKind.i64.wrap ((((i+j)/2:Nat):Int)+1)=(((i+j)/2+1:Nat):Int):=by rw[A0 O O];rfl
  repeat'(first|refine Ae Ac J J J ?_|refine Ag ?_|refine Ah ?_|refine Ai Ac J J ?_|(refine Af J (ht:=fun h=>?_) (hf:=fun h=>?_)<;>try exact prn)|refine Al ?_|refine Ao ?_|refine Ak Ac J J J J J J hfr hc J J ?_)
  ·refine AF ((i+j)/2+1,j) ⟨by simp at*;omega,h2,h3⟩ (by simp;omega) [] (Ad J J (Ad J (by rw[hX,hX2]) (Ad J J Aq))) J
  ·refine AF (i,(i+j)/2) ⟨h1,by simp at*;omega,by simp;omega⟩ (by simp;omega) [] (Ad J J (Ad J J (Ad J (by rw[hX]) Aq))) J
 ·repeat'(first|refine Ae Ac J J J ?_|refine Ag ?_|refine Ah ?_|refine Ai Ac J J ?_|(refine Af J (ht:=fun h=>?_) (hf:=fun h=>?_)<;>try exact prn)|refine AB ?_|refine Ar ?_)
  have he:i=k:=by omega
  exact Au J (Sub.of_eq (by rw[he]))
end Go.Proofs.YtpdmaenhenfofaaGreatDoor
namespace Go.Proofs.YtpdmaenhenfofaaGreatDoor
open Go.Am
attribute [local irreducible] Decidable.decide
set_option maxRecDepth 100000
set_option maxHeartbeats 1000000
theorem RA (n:Int): ∀{l:List Row},Srt Row.offset l→ ∃k,k≤l.length∧(∀i r,l[i]?=some r→(k≤i↔n≤r.offset))∧l.drop k=l.filter (fun r=>decide (n≤r.offset))
 |[],_=>⟨0,Nat.le_refl _,fun i r h=>by simp at h,J⟩
 |a::t,h=>by
  obtain⟨h1,h2⟩:=List.pairwise_cons.1 h
  by_cases hn:n≤a.offset
  ·refine⟨0,Nat.zero_le _,fun i r hr=>?_,?_⟩
   ·have:r∈a::t:=List.mem_of_getElem? hr
    rcases List.mem_cons.1 this with rfl|hm
    ·simp[hn]
    ·have:=h1 r hm;simp;omega
   ·rw[List.drop_zero,List.filter_eq_self.2]
    intro r hr
    rcases List.mem_cons.1 hr with rfl|hm
    ·simpa using hn
    ·have:=h1 r hm;simp;omega
  ·obtain⟨k,q1,q2,q3⟩:=RA n h2
   refine⟨k+1,by simp;omega,fun i r hr=>?_,?_⟩
   ·cases i with
    |zero=>simp at hr;subst hr;simp;omega
    |succ i=>simp at hr;rw[←q2 i r hr];omega
   ·rw[List.filter_cons_of_neg (by simpa using hn),←q3];rfl
theorem Abi (p:Part) (n:Int) (i:Nat) (r:Row) (hr:p.rows[i]?=some r):Ct Tryz.prog 182 (.t (.int .i64 i)::Aj [.ptr (A5 p),.ptr [.int .i64 n]]) [] (.t (.bool (decide (r.offset≥n)))) []:=by
 refine ct0 Ac Tryz.func182 J false J J ?_
 repeat'(first|refine Ae Ac J J J ?_|refine Ag ?_|refine Ah ?_|refine Ai Ac J J ?_|refine Ar ?_|refine A9 (id:=1) (m:=7) Ac Y J J J J ?_|refine AA J J J J ?_|refine Bz J J J J J J J (A2 Aa) J ?_)
 exact Au J (Sub.refl _)
theorem Ad8 (p:Part) (n:Int) (hs:p.rows.length≤1000000) (hsrt:Srt Row.offset p.rows):Ct Tryz.prog 136 [.agg (Aj (A5 p)),.t (.int .i64 n)] [] (.t (.slice .any 5 ((p.rows.filter (fun r=>decide (n≤r.offset))).map AC))) []:=by
 obtain⟨k,q1,q2,q3⟩:=RA n hsrt
 have cs:=XR 182 [.ptr (A5 p),.ptr [.int .i64 n]] p.rows.length k O q1 (fun i hi=>by
  have hr:p.rows[i]?=some p.rows[i]:=List.getElem?_eq_getElem hi
  have:=Abi p n i _ hr
  rwa[show decide (p.rows[i].offset≥n)=decide (k≤i)from decide_eq_decide.2 (q2 i _ hr).symm]at this) J
 have hlm:(p.rows.map AC).length=p.rows.length:=List.length_map ..
 rw[←hlm]at cs
 refine ct0 Ac Tryz.func136 J false J J ?_
 refine Ah ?_
 refine Ai Ac J J ?_
 repeat'(first|refine Ae Ac J J J ?_|refine Ag ?_)
 refine Tr.freezeBox (cs:=A5 p) 2 4 J J J J ?_
 refine Tr.freezeBox (cs:=[.int .i64 n]) 3 6 J J J J ?_
 repeat'(first|refine Ae Ac J J J ?_|refine Ag ?_|refine Ah ?_|refine Ai Ac J J ?_|refine Ar ?_|refine Ak Ac J J J J J J J (cs) J J ?_|refine DL Ac (l:=k) (h:=(p.rows.map AC).length) J J J J J J (Do J J) (Do J J) (Nat.le_refl _) O (.inr ⟨J,J,Do J J,J⟩) (show _=(p.rows.drop k).map AC by rw[←List.map_drop,List.take_of_length_le Z]) J ?_)
 exact Au J (by rw[q3];exact Bp)
end Go.Proofs.YtpdmaenhenfofaaGreatDoor
namespace Go.Proofs.YtpdmaenhenfofaaGreatDoor
open Go.Am
attribute [local irreducible] Decidable.decide
set_option maxRecDepth 100000
set_option maxHeartbeats 1000000
def Mt (p:Part) (n:Int):T:=if n<p.start∨p.fin<n then Cv 290 [97,32,112,108,97,99,101] 130 else .nilIface
theorem TC (p:Part) (n:Int) (hp:Fm p=true) (h1:p.rows.length≤1000000000) (h2:p.opens.length≤1000000000):Ct Tryz.prog 134 [.agg (Aj (A5 p)),.t (.int .i64 n)] [] (.t (Mt p n)) []:=by
 have cc:=Od p h1 h2
 rw[show rdT p=.nilIface by simp[rdT,hp]]at cc
 refine ct0 Ac Tryz.func134 J false J J ?_
 repeat'(first|refine Ae Ac J J J ?_|refine Ag ?_|refine Ah ?_|refine Ai Ac J J ?_|(refine AP J J J J J (ht:=fun h=>?_) (hf:=fun h=>?_)<;>try exact prn)|(refine Af J (ht:=fun h=>?_) (hf:=fun h=>?_)<;>try exact prn)|refine Ao ?_|refine Ar ?_|refine Ak Ac J J J J J J J (cc) J J ?_)
 all_goals refine Au J (Sub.of_eq ?_)
 all_goals try simp only[decide_eq_true_eq,decide_eq_false_iff_not,ge_iff_le,gt_iff_lt]at*
 all_goals first
  |(rw[show Mt p n=_ from if_pos O];done)
  |(rw[show Mt p n=_ from if_pos O];rfl)
  |(rw[show Mt p n=_ from if_neg O])
def LW (p:Part) (n:Int):Part:=⟨n,p.fin,p.rows.filter (fun r=>decide (n≤r.offset)),p.opens,p.prods⟩
theorem Adg (p:Part) (n:Int) (hs:Bt p) (hp:Fm p=true) (hsrt:Srt Row.offset p.rows) (hin:p.start≤n∧n≤p.fin):Ct Tryz.prog 78 [.agg (Aj (A5 p)),.t (.int .i64 n)] [] (.tuple [.agg (Aj (A5 (LW p n))),.t (.int .i64 0)]) []:=by
 obtain⟨h1,h2,h3,h4,h5⟩:=hs
 have cpl:=TC p n hp O O
 rw[show Mt p n=.nilIface from if_neg O]at cpl
 have cfr:=Ad8 p n h1 hsrt
 have hfl:(p.rows.filter (fun r=>decide (n≤r.offset))).length≤1000000:=Nat.le_trans (List.length_filter_le ..) h1
 have cro:=Ve _ hfl
 have hlo:(p.opens.map Aw).length=p.opens.length:=List.length_map ..
 have hlp:(p.prods.map Av).length=p.prods.length:=List.length_map ..
 refine ct0 Ac Tryz.func78 J false J J ?_
 repeat'(first|refine An Ac J J J J J ?_|refine Ae Ac J J J ?_|refine Ag ?_|refine Ah ?_|refine Ai Ac J J ?_|(refine Af J (ht:=fun h=>?_) (hf:=fun h=>?_)<;>try exact prn)|refine Al ?_|refine Ao ?_|refine A9 (id:=4) (m:=9) Ac Y J J J J ?_|refine AA J J J J ?_|refine Ak Ac J J J J J J J (cpl) J J ?_|refine AO J J J J J (cfr) J J ?_|refine AO J J J J J (cro) J J ?_)
 refine Tr.nilCell 14 4 80 4 J J J ?_
 refine Tr.nilCell 14 3 62 3 J J J ?_
 refine AM (ι:=Nat) (fun i=>i≤p.opens.length) (fun i=>[(2,.ref 4 0),(4,.ref 8 0),(7,.ref 14 0),(32,.t (.slice .any 3 (p.opens.map Aw))),(33,.t (.int .i64 ((p.opens.map Aw).length:Int))),(34,.t (.int .i64 i))])
  (fun i=>[(124,.grow 3 ((p.opens.take i).map Aw)),(160,.grow 4 []),(14,.cells [.t (.int .i64 n),.t (.int .i64 p.fin),.t (.slice .any 5 ((p.rows.filter (fun r=>decide (n≤r.offset))).map AC)),.row 124 3 0 ((p.opens.take i).map Aw).length,.row 160 4 0 0]),(8,.cells (Aj F8.zero)),(4,.cells (Aj (A5 p)))]) (fun i=>p.opens.length-i) 0 Z ?_ ?_
 ·exact AR [] (Ad J J (Ad J J (Ad J J (Ad J J (Ad J J (Ad J J Aq)))))) J
 rintro i hi
 by_cases hlt:i<p.opens.length
 ·have hr:p.opens[i]?=some p.opens[i]:=List.getElem?_eq_getElem hlt
  have hsr:=h3 p.opens[i] (List.getElem_mem hlt)
  generalize p.opens[i]=o at hr hsr
  have hlm:(o.batches.map Ap).length=o.batches.length:=List.length_map ..
  have hs1:=hsr.1
  repeat'(first|refine An Ac J J J J J ?_|refine Ae Ac J J J ?_|refine Ag ?_|refine Ah ?_|refine Ai Ac J J ?_|(refine Af J (ht:=fun h=>?_) (hf:=fun h=>?_)<;>try exact prn)|refine Al ?_|refine Ao ?_|refine AD Ac J J J J J J J (A2 Aa) J ?_)
  refine Tr.nilCell 18 2 55 5 J J J ?_
  refine AM (ι:=Nat) (fun j=>j≤o.batches.length) (fun j=>[(2,.ref 4 0),(4,.ref 8 0),(7,.ref 14 0),(9,.ref 18 0),(32,.t (.slice .any 3 (p.opens.map Aw))),(33,.t (.int .i64 ((p.opens.map Aw).length:Int))),(34,.t (.int .i64 i)),(41,.t (.slice .any 5 (o.batches.map Ap))),(42,.t (.int .i64 ((o.batches.map Ap).length:Int))),(43,.t (.int .i64 j))])
   (fun j=>[(110,.grow 5 ((o.batches.take j).map Ap)),(18,.cells [.t (.int .i64 o.pid),.t (.int .i64 o.epoch),.row 110 5 0 ((o.batches.take j).map Ap).length]),(124,.grow 3 ((p.opens.take i).map Aw)),(160,.grow 4 []),(14,.cells [.t (.int .i64 n),.t (.int .i64 p.fin),.t (.slice .any 5 ((p.rows.filter (fun r=>decide (n≤r.offset))).map AC)),.row 124 3 0 ((p.opens.take i).map Aw).length,.row 160 4 0 0]),(8,.cells (Aj F8.zero)),(4,.cells (Aj (A5 p)))]) (fun j=>o.batches.length-j) 0 Z ?_ ?_
  ·exact AR [] (Ad J J (Ad J J (Ad J J (Ad J J (Ad J J (Ad J J (Ad J J (Ad J J (Ad J J (Ad J J Aq)))))))))) J
  rintro j hj
  by_cases hlj:j<o.batches.length
  ·have hr2:o.batches[j]?=some o.batches[j]:=List.getElem?_eq_getElem hlj
   have hsb:=hsr.2 o.batches[j] (List.getElem_mem hlj)
   generalize o.batches[j]=b at hr2 hsb
   repeat'(first|refine An Ac J J J J J ?_|refine Ae Ac J J J ?_|refine Ag ?_|refine Ah ?_|refine Ai Ac J J ?_|(refine Af J (ht:=fun h=>?_) (hf:=fun h=>?_)<;>try exact prn)|refine Al ?_|refine Ao ?_|refine AD Ac J J J J J J J (A2 Aa) J ?_|refine AN Ac J J J J J J J J J J J J J J (by simp[AW];omega) ?_|refine Ak Ac J J J J J J J (LY b.recs hsb) J J ?_)
   refine AF (j+1) hlj O [12] (Ad J J (Ad J J (Ad J J (Ad J J (Ad J J (Ad J J (Ad J J (Ad J J (Ad J J (Ad J (by rw[A0 O O];rfl) Aq)))))))))) ?_
   have ht:(o.batches.take (j+1)).map Ap=(o.batches.take j).map Ap++[Ap b]:=by rw[AL hr2];simp
   rw[ht];rfl
  ·have hjt:o.batches.take j=o.batches:=List.take_of_length_le O
   rw[hjt]
   have hfz:BA 110 5 (o.batches.map Ap) (.agg [.t (.int .i64 o.pid),.t (.int .i64 o.epoch),.row 110 5 0 (o.batches.map Ap).length])=.agg (Aj (Aw o)):=by
    have t1:(o.batches.map Ap).take o.batches.length=o.batches.map Ap:=List.take_of_length_le Z
    simp[BA,DD,Aw,Aj,t1]
   repeat'(first|refine An Ac J J J J J ?_|refine Ae Ac J J J ?_|refine Ag ?_|refine Ah ?_|refine Ai Ac J J ?_|(refine Af J (ht:=fun h=>?_) (hf:=fun h=>?_)<;>try exact prn)|refine AB ?_|refine AN Ac J J J J J J J J J J J J J J (by simp[AW];omega) ?_|refine E0 60 110 J J J hfz ?_)
   refine AF (i+1) hlt O [9] (Ad J J (Ad J J (Ad J J (Ad J J (Ad J J (Ad J (by rw[A0 O O];rfl) Aq)))))) ?_
   have ht:(p.opens.take (i+1)).map Aw=(p.opens.take i).map Aw++[Aw o]:=by rw[AL hr];simp
   rw[ht];rfl
 ·repeat'(first|refine Ae Ac J J J ?_|refine Ag ?_|refine Ah ?_|refine Ai Ac J J ?_|(refine Af J (ht:=fun h=>?_) (hf:=fun h=>?_)<;>try exact prn)|refine Al ?_|refine AB ?_)
  have hto:p.opens.take i=p.opens:=List.take_of_length_le O
  rw[hto]
  refine Tr.swapS J ?_
  refine AM (ι:=Nat) (fun i=>i≤p.prods.length) (fun i=>[(4,.ref 8 0),(7,.ref 14 0),(66,.t (.slice .any 4 (p.prods.map Av))),(67,.t (.int .i64 ((p.prods.map Av).length:Int))),(68,.t (.int .i64 i))])
   (fun i=>[(160,.grow 4 ((p.prods.take i).map Av)),(124,.grow 3 (p.opens.map Aw)),(14,.cells [.t (.int .i64 n),.t (.int .i64 p.fin),.t (.slice .any 5 ((p.rows.filter (fun r=>decide (n≤r.offset))).map AC)),.row 124 3 0 (p.opens.map Aw).length,.row 160 4 0 ((p.prods.take i).map Av).length]),(8,.cells (Aj F8.zero)),(4,.cells (Aj (A5 p)))]) (fun i=>p.prods.length-i) 0 Z ?_ ?_
  ·exact AR [] (Ad J J (Ad J J (Ad J J (Ad J J (Ad J J Aq))))) J
  rintro j hj
  by_cases hlj:j<p.prods.length
  ·have hr:p.prods[j]?=some p.prods[j]:=List.getElem?_eq_getElem hlj
   have hsr:=h5 p.prods[j] (List.getElem_mem hlj)
   generalize p.prods[j]=r at hr hsr
   repeat'(first|refine An Ac J J J J J ?_|refine Ae Ac J J J ?_|refine Ag ?_|refine Ah ?_|refine Ai Ac J J ?_|(refine Af J (ht:=fun h=>?_) (hf:=fun h=>?_)<;>try exact prn)|refine Al ?_|refine Ao ?_|refine AD Ac J J J J J J J (A2 Aa) J ?_|refine AN Ac J J J J J J J J J J J J J J (by simp[AW];omega) ?_|refine Ak Ac J J J J J J J (Gl r.seen hsr) J J ?_)
   refine AF (j+1) hlj O [14] (Ad J J (Ad J J (Ad J J (Ad J J (Ad J (by rw[A0 O O];rfl) Aq))))) ?_
   have ht:(p.prods.take (j+1)).map Av=(p.prods.take j).map Av++[Av r]:=by rw[AL hr];simp
   rw[ht];rfl
  ·repeat'(first|refine An Ac J J J J J ?_|refine Ae Ac J J J ?_|refine Ag ?_|refine Ah ?_|refine Ai Ac J J ?_|(refine Af J (ht:=fun h=>?_) (hf:=fun h=>?_)<;>try exact prn)|refine AB ?_|refine Ar ?_)
   have htp:p.prods.take j=p.prods:=List.take_of_length_le O
   rw[htp]
   refine Au J (Sub.of_eq (Eq.trans (b:=.tuple [BA 124 3 (p.opens.map Aw) (BA 160 4 (p.prods.map Av) (.agg [.t (.int .i64 n),.t (.int .i64 p.fin),.t (.slice .any 5 ((p.rows.filter (fun r=>decide (n≤r.offset))).map AC)),.row 124 3 0 (p.opens.map Aw).length,.row 160 4 0 (p.prods.map Av).length])),.t (.int .i64 0)]) J ?_))
   have b1:Nat.beq 124 160=false:=rfl
   have b2:Nat.beq 160 124=false:=rfl
   have t1:(p.opens.map Aw).take p.opens.length=p.opens.map Aw:=List.take_of_length_le Z
   have t2:(p.prods.map Av).take p.prods.length=p.prods.map Av:=List.take_of_length_le Z
   simp[BA,DD,A5,LW,Aj,b1,b2,t1,t2]
end Go.Proofs.YtpdmaenhenfofaaGreatDoor
