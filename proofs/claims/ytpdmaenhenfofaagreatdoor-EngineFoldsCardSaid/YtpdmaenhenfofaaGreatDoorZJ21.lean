/- Contracts and laws, joined: Ue, Uf, Ul, Um, Un, Uo, Up. No condition beside those that each theorem names. -/
import Derived.Test.YtpdmaenhenfofaaGreatDoorZM10
import Derived.Test.YtpdmaenhenfofaaGreatDoorZM11
import Derived.Test.YtpdmaenhenfofaaGreatDoorZJ17
import Derived.Test.YtpdmaenhenfofaaGreatDoorZJ20
set_option linter.unusedVariables false
set_option linter.unusedSimpArgs false
namespace Go.Proofs.YtpdmaenhenfofaaGreatDoor
open Go.Am
attribute [local irreducible] Decidable.decide
set_option maxRecDepth 100000
set_option maxHeartbeats 1000000
theorem JL (b sz:Nat) (es:List (List T)) (n:Nat) (h:n=es.length):BA b sz es (.row b sz 0 n)=.t (.slice .any sz es):=by
 subst h
 simp[BA]
def plI (l:List Prod) (k:Int):Nat:=(l.findIdx? (fun x=>decide (x.pid≥k))).getD l.length
theorem Ah4 {l:List Prod} {k:Int} {i:Nat} {x:Prod} (h:l[i]?=some x) (ha:(l.take i).any (fun x=>decide (x.pid≥k))=false) (hp:k≤x.pid):plI l k=i:=by
 have hlt:=(List.getElem?_eq_some_iff.1 h).1
 have e:=(List.getElem?_eq_some_iff.1 h).2
 have:l.findIdx? (fun x=>decide (x.pid≥k))=some i:=by
  rw[List.findIdx?_eq_some_iff_getElem]
  refine⟨hlt,by rw[e];simpa using hp,fun j hj=>?_⟩
  have:=List.any_eq_false.1 ha l[j] (List.mem_take_iff_getElem.2 ⟨j,by omega,J⟩)
  simpa using this
 simp[plI,this]
theorem Ah2 {l:List Prod} {k:Int} (ha:l.any (fun x=>decide (x.pid≥k))=false):plI l k=l.length:=by
 have:l.findIdx? (fun x=>decide (x.pid≥k))=none:=by
  rw[List.findIdx?_eq_none_iff];intro x hx;simpa using List.any_eq_false.1 ha x hx
 simp[plI,this]
theorem Ah3 (l:List Prod) (k:Int):plI l k≤l.length:=by
 unfold plI
 cases h:l.findIdx? (fun x=>decide (x.pid≥k))with
 |none=>simp
 |some i=>have:=(List.findIdx?_eq_some_iff_getElem.1 h).1;simp;omega
def plB (l:List Prod) (k:Int):Bool:=decide ((l[plI l k]?.map Prod.pid)=some k)
theorem Adc (l:List Prod) (p:Prod):Dt l p=l.take (plI l p.pid)++p::l.drop (if plB l p.pid=true then plI l p.pid+1 else plI l p.pid):=by
 unfold Dt plB plI
 cases h:l.findIdx? (fun x=>decide (x.pid≥p.pid))with
 |none=>simp[Oe]
 |some i=>
  simp only[Option.getD_some,decide_eq_true_eq]
  split<;>rfl
theorem VV (l:List Prod) (k:Int) (hl:l.length≤1000000):Ct Tryz.prog 208 [.t (.slice .any 4 (l.map Av)),.t (.int .i64 k)] [] (.tuple [.t (.int .i64 (plI l k:Int)),.t (.bool (plB l k))]) []:=by
 have hlm:(l.map Av).length=l.length:=List.length_map ..
 refine ct0 Ac Tryz.func208 J false J J ?_
 repeat'(first|refine Ae Ac J J J ?_|refine Ag ?_|refine Ah ?_|refine Ai Ac J J ?_|refine Al ?_)
 refine AM (ι:=Nat) (fun i=>i≤l.length∧(l.take i).any (fun x=>decide (x.pid≥k))=false) (fun i=>[(0,.t (.slice .any 4 (l.map Av))),(1,.t (.int .i64 k)),(6,.t (.int .i64 i))]) (fun _=>[]) (fun i=>l.length-i) 0 Z ?_ ?_
 ·exact AR [] (Ad J J (Ad J J (Ad J J Aq))) J
 rintro i ⟨hi,hany⟩
 by_cases hlt:i<l.length
 ·have hr:l[i]?=some l[i]:=List.getElem?_eq_getElem hlt
  generalize l[i]=r at hr
  by_cases hk:r.pid<k
  ·repeat'(first|refine Ae Ac J J J ?_|refine Ag ?_|refine Ah ?_|refine Ai Ac J J ?_|(refine AZ J J J J J (ht:=fun h=>?_) (hf:=fun h=>?_)<;>try exact prn)|(refine Af J (ht:=fun h=>?_) (hf:=fun h=>?_)<;>try exact prn)|refine Al ?_|refine Ao ?_|refine AD Ac J J J J J J J (A2 Aa) J ?_)
   all_goals try(exfalso;omega)
   all_goals refine AF (i+1) ⟨hlt,Cd hr hany (by simp;omega)⟩ O [] (Ad J J (Ad J J (Ad J (by rw[A0 O O];rfl) Aq))) J
  ·have hp:=Ah4 hr hany O
   have hb:plB l k=decide (r.pid=k):=by simp[plB,hp,hr]
   rw[hp,hb]
   repeat'(first|refine Ae Ac J J J ?_|refine Ag ?_|refine Ah ?_|refine Ai Ac J J ?_|(refine AZ J J J J J (ht:=fun h=>?_) (hf:=fun h=>?_)<;>try exact prn)|(refine Af J (ht:=fun h=>?_) (hf:=fun h=>?_)<;>try exact prn)|refine AB ?_|refine Ar ?_|refine AD Ac J J J J J J J (A2 Aa) J ?_|refine A9 (id:=4) (m:=15) Ac Y J J J J ?_|refine AA J J J J ?_|(refine EQ J J J J J (ht:=fun h=>?_) (hf:=fun h=>?_)<;>try exact prn)|refine Bz J J J J J J J (A2 Aa) J ?_)
   all_goals try(exfalso;omega)
   all_goals exact Au J (AK ⟨Sub.refl _,BJ (by first|rfl|(by_cases h:r.pid=k<;>simp[h])),trivial⟩)
 ·have hp:=Ah2 (k:=k) (l:=l) (by rw[←hany,List.take_of_length_le O])
  have hb:plB l k=false:=by simp[plB,hp]
  have e:i=l.length:=by omega
  subst e
  rw[hp,hb]
  repeat'(first|refine Ae Ac J J J ?_|refine Ag ?_|refine Ah ?_|refine Ai Ac J J ?_|(refine AZ J J J J J (ht:=fun h=>?_) (hf:=fun h=>?_)<;>try exact prn)|(refine Af J (ht:=fun h=>?_) (hf:=fun h=>?_)<;>try exact prn)|refine AB ?_|refine Ar ?_|refine A9 (id:=4) (m:=15) Ac Y J J J J ?_|refine AA J J J J ?_|(refine EQ J J J J J (ht:=fun h=>?_) (hf:=fun h=>?_)<;>try exact prn))
  all_goals exact Au J (Sub.of_eq J)
theorem NS (l:List Prod) (p:Prod) (hl:l.length≤1000):Ct Tryz.prog 191 [.t (.slice .any 4 (l.map Av)),.agg (Aj (Av p))] [] (.t (.slice .any 4 ((Dt l p).map Av))) []:=by
 have hlm:(l.map Av).length=l.length:=List.length_map ..
 have cp:=VV l p.pid O
 have hle:=Ah3 l p.pid
 have hbk:plB l p.pid=true→plI l p.pid<l.length:=fun h=>by
  simp only[plB,decide_eq_true_eq]at h
  cases hg:l[plI l p.pid]? with
  |none=>rw[hg]at h;simp at h
  |some x=>exact(List.getElem?_eq_some_iff.1 hg).1
 rw[Adc]
 generalize plI l p.pid=k at*
 generalize plB l p.pid=b at*
 have hw:IntKind.i64.wrap ((k:Int)+1)=((k+1:Nat):Int):=by rw[A0 O O];rfl
 have ht:(l.take k).length≤1000:=by rw[List.length_take];omega
 cases b with
 |true=>
  have hlt:=hbk J
  refine ct0 Ac Tryz.func191 J false J J ?_
  repeat'(first|refine An Ac J J J J J ?_|refine Ae Ac J J J ?_|refine Ag ?_|refine Ah ?_|refine Ai Ac J J ?_|(refine Af J (ht:=fun h=>?_) (hf:=fun h=>?_)<;>try exact prn)|refine Ar ?_|refine Ew Ac J J J J J J J J J J J J J (by simp[AW];omega) ?_|refine AN Ac J J J J J J J J J J J J J J (by simp[AW];omega) ?_|refine Ak Ac J J J J J J J (cp) J J ?_|refine DL Ac (l:=0) (h:=k) J J J J J J (Do J J) FM O O (.inl ⟨J,J⟩) (show _=(l.take k).map Av by simp[List.map_take]) J ?_|refine DL Ac (l:=k+1) (h:=(l.map Av).length) J J J J J J FM (Do J hw) O O (.inl ⟨J,J⟩) (show _=(l.drop (k+1)).map Av by rw[←List.map_drop,List.take_of_length_le Z]) J ?_)
  refine Au J (Sub.of_eq ((JL _ _ _ _ J).trans ?_))
  rw[List.map_append,List.map_cons,List.append_assoc]
  rfl
 |false=>
  refine ct0 Ac Tryz.func191 J false J J ?_
  repeat'(first|refine An Ac J J J J J ?_|refine Ae Ac J J J ?_|refine Ag ?_|refine Ah ?_|refine Ai Ac J J ?_|(refine Af J (ht:=fun h=>?_) (hf:=fun h=>?_)<;>try exact prn)|refine Ao ?_|refine Ar ?_|refine Ew Ac J J J J J J J J J J J J J (by simp[AW];omega) ?_|refine AN Ac J J J J J J J J J J J J J J (by simp[AW];omega) ?_|refine Ak Ac J J J J J J J (cp) J J ?_|refine DL Ac (l:=0) (h:=k) J J J J J J (Do J J) FM O O (.inl ⟨J,J⟩) (show _=(l.take k).map Av by simp[List.map_take]) J ?_|refine DL Ac (l:=k) (h:=(l.map Av).length) J J J J J J FM (Do J J) O O (.inl ⟨J,J⟩) (show _=(l.drop k).map Av by rw[←List.map_drop,List.take_of_length_le Z]) J ?_)
  refine Au J (Sub.of_eq ((JL _ _ _ _ J).trans ?_))
  rw[List.map_append,List.map_cons,List.append_assoc]
  rfl
theorem KI (b:Batch) (hb:A1 b=true):Ct Tryz.prog 189 [.agg (Aj (Ap b))] [] (.t (.int .i64 (Bo b))) []:=by
 have hm:=AU hb
 have hlm:(b.recs.map Bu).length=b.recs.length:=List.length_map ..
 refine ct0 Ac Tryz.func189 J false J J ?_
 repeat'(first|refine Ae Ac J J J ?_|refine Ag ?_|refine Ah ?_|refine Ai Ac J J ?_|refine Ar ?_)
 refine Au J (Sub.of_eq ?_)
 rw[hlm,A0 O O];rfl
theorem KC (l:List Prod) (k:Int) (hl:BO l=true):Ct Tryz.prog 187 [.t (.slice .any 4 (l.map Av)),.t (.int .i64 k)] [] (.t (.slice .any 4 ((Cr l k).map Av))) []:=by
 have hs:=MW hl
 have hl8:=DY hl O
 have cf:=JM l k O
 have cs:=NS l {AX l k with seen:=[]} O
 rw[LZ hl]
 cases hh:CK l k with
 |false=>
  rw[hh]at cf
  refine ct0 Ac Tryz.func187 J false J J ?_
  repeat'(first|refine An Ac J J J J J ?_|refine Ae Ac J J J ?_|refine Ag ?_|refine Ah ?_|refine Ai Ac J J ?_|(refine Af J (ht:=fun h=>?_) (hf:=fun h=>?_)<;>try exact prn)|refine Ar ?_|refine Ak Ac J J J J J J J (cf) J J ?_)
  all_goals exact Au J (Sub.of_eq J)
 |true=>
  rw[hh]at cf
  refine ct0 Ac Tryz.func187 J false J J ?_
  repeat'(first|refine An Ac J J J J J ?_|refine Ae Ac J J J ?_|refine Ag ?_|refine Ah ?_|refine Ai Ac J J ?_|(refine Af J (ht:=fun h=>?_) (hf:=fun h=>?_)<;>try exact prn)|refine Ao ?_|refine Ar ?_|refine Ak Ac J J J J J J J (cf) J J ?_|refine Ck Ac J J J J (cs) J J J ⟨Sub.refl _,B7 ⟨Sub.refl _,Sub.refl _,Sub.refl _,A6,trivial⟩,trivial⟩ ?_)
  all_goals exact Au J (Sub.of_eq J)
theorem Aap (l:List Prod) (hl:BO l=true):Ct Tryz.prog 209 [.t (.slice .any 4 (l.map Av))] [] (.t (.bool true)) []:=by
 have hlm:(l.map Av).length=l.length:=List.length_map ..
 have hl8:=DY hl O
 obtain⟨hs,hk⟩:=Aon.1 hl
 refine ct0 Ac Tryz.func209 J false J J ?_
 repeat'(first|refine Ae Ac J J J ?_|refine Ag ?_|refine Ah ?_|refine Ai Ac J J ?_|refine Al ?_)
 refine AM (ι:=Nat×Int) (fun x=>x.1≤l.length∧ ∀p∈l.drop x.1,x.2<p.pid) (fun x=>[(0,.t (.slice .any 4 (l.map Av))),(3,.t (.int .i64 x.2)),(4,.t (.int .i64 x.1))]) (fun _=>[]) (fun x=>l.length-x.1) (0,0) ⟨by simp,fun p hp=>by have:=Dh (hk p (by simpa using hp));unfold BU at this;omega⟩ ?_ ?_
 ·exact AR [] (Ad J J (Ad J J (Ad J J Aq))) J
 rintro⟨i,n⟩ ⟨hi,hn⟩
 simp only at hi hn
 by_cases hlt:i<l.length
 ·have hr:l[i]?=some l[i]:=List.getElem?_eq_getElem hlt
  have hkk:=hk l[i] (List.getElem_mem hlt)
  generalize l[i]=r at hr hkk
  have hd:=BE hr
  rw[hd]at hn
  have hb:=Dh hkk
  unfold BU at hb
  have ck:=Rs r
  rw[hkk]at ck
  have hlt2:=hn r Z
  have hs2:Srt Prod.pid (r::l.drop (i+1)):=by rw[←hd];exact List.Pairwise.sublist (List.drop_sublist i l) hs
  have hs3:=(List.pairwise_cons.1 hs2).1
  repeat'(first|refine Ae Ac J J J ?_|refine Ag ?_|refine Ah ?_|refine Ai Ac J J ?_|(refine AP J J J J J (ht:=fun h=>?_) (hf:=fun h=>?_)<;>try exact prn)|(refine Af J (ht:=fun h=>?_) (hf:=fun h=>?_)<;>try exact prn)|refine Al ?_|refine Ao ?_|refine AD Ac J J J J J J J (A2 Aa) J ?_|refine Ak Ac J J J J J J J (ck) J J ?_)
  all_goals try(exfalso;omega)
  all_goals refine AF (i+1,r.pid) ⟨hlt,hs3⟩ (by simp;omega) [] (Ad J J (Ad J J (Ad J (by rw[A0 O O];rfl) Aq))) J
 ·repeat'(first|refine Ae Ac J J J ?_|refine Ag ?_|refine Ah ?_|refine Ai Ac J J ?_|(refine Af J (ht:=fun h=>?_) (hf:=fun h=>?_)<;>try exact prn)|refine AB ?_|refine Ar ?_)
  all_goals exact Au J (Sub.of_eq J)
end Go.Proofs.YtpdmaenhenfofaaGreatDoor
namespace Go.Proofs.YtpdmaenhenfofaaGreatDoor
open Go.Am
attribute [local irreducible] Decidable.decide
set_option maxRecDepth 100000
set_option maxHeartbeats 1000000
theorem Vj {l:List Prod} {b:Batch} (hl:BO l=true) (hb:A1 b=true) (hc:B4 l b=0) (hi:Cl l b=false):(CK l b.pid=false∧b.seq=0∧EV l b=[])∨(CK l b.pid=true∧(AX l b.pid).epoch<b.epoch∧b.seq=0∧EV l b=[])∨(CK l b.pid=true∧b.epoch=(AX l b.pid).epoch∧b.seq=(AX l b.pid).next∧(AX l b.pid).seen.any (EG b)=false∧EV l b=(AX l b.pid).seen):=by
 obtain⟨h1,h2⟩:=Vi hl hb
 rw[h1]at hc;rw[h2]at hi
 have hfen:CL l b=false:=by
  cases hf:CL l b with
  |false=>rfl
  |true=>simp[Ee,hf]at hc
 have hany:(DR l b).seen.any (EG b)=false:=by simpa[Hd,hfen]using hi
 have hseq:b.seq=(DR l b).next:=by
  by_cases h:b.seq=(DR l b).next
  ·exact h
  ·simp[Ee,hfen,hany,h]at hc
 cases hh:CK l b.pid with
 |false=>
  have hcur:DR l b=CZ:=by simp[DR,hh]
  rw[hcur]at hseq
  exact .inl ⟨J,hseq,by simp[EV,O9 hh,CZ]⟩
 |true=>
  by_cases he:b.epoch≤(AX l b.pid).epoch
  ·have hcur:DR l b=AX l b.pid:=by simp[DR,hh,he]
   rw[hcur]at hseq hany
   have: ¬b.epoch<(AX l b.pid).epoch:=fun h=>by simp[CL,hh,h]at hfen
   have e:(AX l b.pid).epoch=b.epoch:=by omega
   exact .inr (.inr ⟨J,by omega,hseq,hany,by simp[EV,e]⟩)
  ·have hcur:DR l b=CZ:=by simp[DR,he]
   rw[hcur]at hseq
   exact .inr (.inl ⟨J,by omega,hseq,by simp[EV];omega⟩)
theorem WA (l:List Prod) (b:Batch) (hl:BO l=true) (hb:A1 b=true) (hc:B4 l b=0) (hi:Cl l b=false):Ct Tryz.prog 192 [.t (.slice .any 4 (l.map Av)),.agg (Aj (Ap b))] [] (.tuple [.t (.int .i64 (-1)),.t (.bool false),.t (.int .i64 0)]) []:=by
 have hl8:=DY hl O
 have cm:=Aap l hl
 have c6:=Sr b
 rw[hb]at c6
 have cf:=JM l b.pid O
 have hlr:(b.recs.map Bu).length=b.recs.length:=List.length_map ..
 have hkn:CK l b.pid=true→BU (AX l b.pid):=fun h=>Dh ((Aon.1 hl).2 _ (FE h).1)
 have hfacts:=Vj hl hb hc hi
 generalize AX l b.pid=p at*
 generalize CK l b.pid=h at*
 rcases hfacts with⟨e1,e2,_⟩|⟨e1,e2,e3,_⟩|⟨e1,e2,e3,e4,_⟩
 ·subst e1
  refine ct0 Ac Tryz.func192 J false J J ?_
  repeat'(first|refine An Ac J J J J J ?_|refine Ae Ac J J J ?_|refine Ag ?_|refine Ah ?_|refine Ai Ac J J ?_|(refine AP J J J J J (ht:=fun h=>?_) (hf:=fun h=>?_)<;>try exact prn)|(refine Af J (ht:=fun h=>?_) (hf:=fun h=>?_)<;>try exact prn)|refine Ao ?_|refine Ar ?_|refine Ak Ac J J J J J J J (cm) J J ?_|refine Ak Ac J J J J J J J (c6) J J ?_|refine Ak Ac J J J J J J J (cf) J J ?_)
  all_goals try(exfalso;omega)
  all_goals exact Au J (Sub.of_eq J)
 ·subst e1
  refine ct0 Ac Tryz.func192 J false J J ?_
  repeat'(first|refine An Ac J J J J J ?_|refine Ae Ac J J J ?_|refine Ag ?_|refine Ah ?_|refine Ai Ac J J ?_|(refine AP J J J J J (ht:=fun h=>?_) (hf:=fun h=>?_)<;>try exact prn)|(refine Af J (ht:=fun h=>?_) (hf:=fun h=>?_)<;>try exact prn)|refine Ao ?_|refine Ar ?_|refine Ak Ac J J J J J J J (cm) J J ?_|refine Ak Ac J J J J J J J (c6) J J ?_|refine Ak Ac J J J J J J J (cf) J J ?_)
  all_goals try(exfalso;omega)
  all_goals exact Au J (Sub.of_eq J)
 ·subst e1
  have hlp:(p.seen.map Bv).length=p.seen.length:=List.length_map ..
  have hbp:=hkn J
  unfold BU at hbp
  refine ct0 Ac Tryz.func192 J false J J ?_
  repeat'(first|refine An Ac J J J J J ?_|refine Ae Ac J J J ?_|refine Ag ?_|refine Ah ?_|refine Ai Ac J J ?_|(refine AP J J J J J (ht:=fun h=>?_) (hf:=fun h=>?_)<;>try exact prn)|(refine Af J (ht:=fun h=>?_) (hf:=fun h=>?_)<;>try exact prn)|refine Al ?_|refine Ao ?_|refine Ak Ac J J J J J J J (cm) J J ?_|refine Ak Ac J J J J J J J (c6) J J ?_|refine Ak Ac J J J J J J J (cf) J J ?_)
  all_goals try(exfalso;omega)
  refine AM (ι:=Nat) (fun i=>i≤p.seen.length) (fun i=>[(3,.ref 6 0),(7,.ref 14 0),(9,.t (.int .i64 i))]) (fun _=>[(14,.cells (Aj (Av p))),(6,.cells (Aj (Ap b)))]) (fun i=>p.seen.length-i) 0 Z ?_ ?_
  ·exact AR [] (Ad J J (Ad J J (Ad J J Aq))) J
  rintro i hi
  by_cases hlt:i<p.seen.length
  ·have hr:p.seen[i]?=some p.seen[i]:=List.getElem?_eq_getElem hlt
   have hne:=List.any_eq_false.1 e4 p.seen[i] (List.getElem_mem hlt)
   generalize p.seen[i]=r at hr hne
   have hne2: ¬(r.seq=b.seq∧r.count=(b.recs.length:Int)):=by simpa[EG]using hne
   repeat'(first|refine Ae Ac J J J ?_|refine Ag ?_|refine Ah ?_|refine Ai Ac J J ?_|(refine AZ J J J J J (ht:=fun h=>?_) (hf:=fun h=>?_)<;>try exact prn)|(refine Af J (ht:=fun h=>?_) (hf:=fun h=>?_)<;>try exact prn)|refine Al ?_|refine Ao ?_|refine A9 (id:=13) (m:=19) Ac Y J J J J ?_|refine AA J J J J ?_|(refine EQ J J J J J (ht:=fun h=>?_) (hf:=fun h=>?_)<;>try exact prn)|refine Bz J J J J J J J (A2 Aa) J ?_)
   all_goals try(exfalso;omega)
   all_goals refine AF (i+1) hlt O [] (Ad J J (Ad J J (Ad J (by rw[A0 O O];rfl) Aq))) J
  ·repeat'(first|refine Ae Ac J J J ?_|refine Ag ?_|refine Ah ?_|refine Ai Ac J J ?_|(refine Af J (ht:=fun h=>?_) (hf:=fun h=>?_)<;>try exact prn)|refine Ao ?_|refine AB ?_|refine Ar ?_)
   all_goals try(exfalso;omega)
   all_goals exact Au J (Sub.of_eq J)
def Lf (b:Batch) (base:Int):List T:=[.int .i64 b.seq,.int .i64 ((b.recs.map Bu).length:Int),.int .i64 base]
theorem Hp (l:List Prod) (b:Batch) (base:Int) (hl:BO l=true) (hb:A1 b=true) (hc:B4 l b=0) (hi:Cl l b=false) (h1: -1≤base) (h2:base≤1048576):Ct Tryz.prog 150 [.t (.slice .any 4 (l.map Av)),.agg (Aj (Ap b)),.t (.int .i64 base)] [] (.tuple [.t (.slice .any 4 ((Dt l (Bx l b base)).map Av)),.t (.int .i64 0)]) []:=by
 have hl8:=DY hl O
 have ck:=WA l b hl hb hc hi
 have cf:=JM l b.pid O
 have cb:=KI b hb
 have cs:=NS l (Bx l b base) O
 have hlr:(b.recs.map Bu).length=b.recs.length:=List.length_map ..
 have hkn:CK l b.pid=true→BU (AX l b.pid):=fun h=>Dh ((Aon.1 hl).2 _ (FE h).1)
 have hfacts:=Vj hl hb hc hi
 unfold Bx at*
 generalize AX l b.pid=p at*
 generalize CK l b.pid=h at*
 generalize EV l b=ks at*
 generalize Dt l _=R at cs
 have hfzA:BA 138 3 [Lf b base] (.agg [.t (.int .i64 b.pid),.t (.int .i64 b.epoch),.t (.int .i64 (Bo b)),.row 138 3 0 1])=.agg (Aj (Av ⟨b.pid,b.epoch,Bo b,II ([]++[⟨b.seq,b.recs.length,base⟩])⟩)):=by
  simp[BA,DD,II,Av,Bv,Aj,Lf]
 have hch:(AW NJ.size (0+1) [T.int .i64 b.seq,T.int .i64 ((b.recs.map Bu).length:Int),T.int .i64 base]).length=1:=rfl
 have hch2:(p.seen.map Bv++AW NJ.size (0+1) [T.int .i64 b.seq,T.int .i64 ((b.recs.map Bu).length:Int),T.int .i64 base]).length=p.seen.length+1:=by rw[List.length_append,hch,List.length_map]
 have hn1: ¬((3:Int)<(((AW NJ.size (0+1) [T.int .i64 b.seq,T.int .i64 ((b.recs.map Bu).length:Int),T.int .i64 base]).length:Nat):Int)):=by rw[hch];omega
 rcases hfacts with⟨e1,e2,e3⟩|⟨e1,e2,e3,e4⟩|⟨e1,e2,e3,e4,e5⟩
 ·subst e1 e3
  refine ct0 Ac Tryz.func150 J false J J ?_
  repeat'(first|refine An Ac J J J J J ?_|refine Ae Ac J J J ?_|refine Ag ?_|refine Ah ?_|refine Ai Ac J J ?_|(refine AZ J J J J J (ht:=fun h=>?_) (hf:=fun h=>?_)<;>try exact prn)|(refine AP J J J J J (ht:=fun h=>?_) (hf:=fun h=>?_)<;>try exact prn)|(refine Af J (ht:=fun h=>?_) (hf:=fun h=>?_)<;>try exact prn)|refine Ao ?_|refine Ar ?_|refine A9 (id:=9) (m:=8) Ac Y J J J J ?_|refine AA J J J J ?_|refine Ak Ac J J J J J J J (ck) J J ?_|refine Ak Ac J J J J J J J (cf) J J ?_|refine Ak Ac J J J J J J J (cs) J J ?_|refine AO J J J J J (cb) J J ?_|refine E0 80 138 J J J hfzA ?_)
  all_goals try exact absurd h hn1
  all_goals exact Au J (Sub.of_eq J)
 ·subst e1 e4
  refine ct0 Ac Tryz.func150 J false J J ?_
  repeat'(first|refine An Ac J J J J J ?_|refine Ae Ac J J J ?_|refine Ag ?_|refine Ah ?_|refine Ai Ac J J ?_|(refine AZ J J J J J (ht:=fun h=>?_) (hf:=fun h=>?_)<;>try exact prn)|(refine AP J J J J J (ht:=fun h=>?_) (hf:=fun h=>?_)<;>try exact prn)|(refine Af J (ht:=fun h=>?_) (hf:=fun h=>?_)<;>try exact prn)|refine Ao ?_|refine Ar ?_|refine A9 (id:=9) (m:=8) Ac Y J J J J ?_|refine AA J J J J ?_|refine Ak Ac J J J J J J J (ck) J J ?_|refine Ak Ac J J J J J J J (cf) J J ?_|refine Ak Ac J J J J J J J (cs) J J ?_|refine AO J J J J J (cb) J J ?_|refine E0 80 138 J J J hfzA ?_)
  all_goals try exact absurd h hn1
  all_goals exact Au J (Sub.of_eq J)
 ·subst e1 e5
  have hbp:=hkn J
  unfold BU at hbp
  have hlp:(p.seen.map Bv).length=p.seen.length:=List.length_map ..
  have hq:(p.seen.map Bv++[Lf b base]).length=p.seen.length+1:=by simp
  have hfzB:p.seen.length≤2→BA 114 3 (p.seen.map Bv++[Lf b base]) (.agg [.t (.int .i64 b.pid),.t (.int .i64 b.epoch),.t (.int .i64 (Bo b)),.row 114 3 0 (p.seen.map Bv++[Lf b base]).length])=.agg (Aj (Av ⟨b.pid,b.epoch,Bo b,II (p.seen++[⟨b.seq,b.recs.length,base⟩])⟩)):=fun h=>by
   have hw:II (p.seen++[(⟨b.seq,b.recs.length,base⟩:Seen)])=p.seen++[(⟨b.seq,b.recs.length,base⟩:Seen)]:=by unfold II;rw[show(p.seen++[(⟨b.seq,b.recs.length,base⟩:Seen)]).length-3=0 by simp;omega];rfl
   rw[hw]
   simp only[BA,DD,Nat.beq_refl,cond_true,if_true,Nat.zero_add,Nat.le_refl,List.drop_zero,List.take_length]
   simp[Av,Bv,Aj,Lf]
   try exact List.take_of_length_le Z
  by_cases h3:p.seen.length≤2
  ·have hfz:=hfzB h3
   have hn3: ¬((3:Int)<(((p.seen.map Bv++AW NJ.size (0+1) [T.int .i64 b.seq,T.int .i64 ((b.recs.map Bu).length:Int),T.int .i64 base]).length:Nat):Int)):=by rw[hch2];omega
   refine ct0 Ac Tryz.func150 J false J J ?_
   repeat'(first|refine An Ac J J J J J ?_|refine Ae Ac J J J ?_|refine Ag ?_|refine Ah ?_|refine Ai Ac J J ?_|(refine AZ J J J J J (ht:=fun h=>?_) (hf:=fun h=>?_)<;>try exact prn)|(refine AP J J J J J (ht:=fun h=>?_) (hf:=fun h=>?_)<;>try exact prn)|(refine Af J (ht:=fun h=>?_) (hf:=fun h=>?_)<;>try exact prn)|refine Ao ?_|refine Ar ?_|refine Ew Ac J J J J J J J J J J J J J (by simp[AW];omega) ?_|refine AN Ac J J J J J J J J J J J J J J (by simp[AW];omega) ?_|refine A9 (id:=9) (m:=8) Ac Y J J J J ?_|refine AA J J J J ?_|refine Ak Ac J J J J J J J (ck) J J ?_|refine Ak Ac J J J J J J J (cf) J J ?_|refine Ak Ac J J J J J J J (cs) J J ?_|refine AO J J J J J (cb) J J ?_|refine E0 80 114 J J J hfz ?_)
   all_goals try exact absurd h hn3
   all_goals exact Au J (Sub.of_eq J)
  ·have hn3:(3:Int)<(((p.seen.map Bv++AW NJ.size (0+1) [T.int .i64 b.seq,T.int .i64 ((b.recs.map Bu).length:Int),T.int .i64 base]).length:Nat):Int):=by rw[hch2];omega
   have hfz:BA 114 3 (p.seen.map Bv++[Lf b base]) (.agg [.t (.int .i64 b.pid),.t (.int .i64 b.epoch),.t (.int .i64 (Bo b)),.row 114 3 (0+1) ((p.seen.map Bv++[Lf b base]).length-1)])=.agg (Aj (Av ⟨b.pid,b.epoch,Bo b,II (p.seen++[⟨b.seq,b.recs.length,base⟩])⟩)):=by
    have hw:II (p.seen++[(⟨b.seq,b.recs.length,base⟩:Seen)])=(p.seen++[(⟨b.seq,b.recs.length,base⟩:Seen)]).drop 1:=by unfold II;rw[show(p.seen++[(⟨b.seq,b.recs.length,base⟩:Seen)]).length-3=1 by simp;omega]
    rw[hw]
    simp only[BA,DD,Nat.beq_refl,cond_true,if_true,Nat.zero_add]
    rw[if_pos (by rw[hq];omega),List.take_of_length_le (by rw[List.length_drop];exact Nat.le_refl _)]
    simp[Av,Bv,Aj,List.map_drop,Lf]
   refine ct0 Ac Tryz.func150 J false J J ?_
   repeat'(first|refine An Ac J J J J J ?_|refine Ae Ac J J J ?_|refine Ag ?_|refine Ah ?_|refine Ai Ac J J ?_|(refine AZ J J J J J (ht:=fun h=>?_) (hf:=fun h=>?_)<;>try exact prn)|(refine AP J J J J J (ht:=fun h=>?_) (hf:=fun h=>?_)<;>try exact prn)|(refine Af J (ht:=fun h=>?_) (hf:=fun h=>?_)<;>try exact prn)|refine Ao ?_|refine Ar ?_|refine Ew Ac J J J J J J J J J J J J J (by simp[AW];omega) ?_|refine AN Ac J J J J J J J J J J J J J J (by simp[AW];omega) ?_|refine A9 (id:=9) (m:=8) Ac Y J J J J ?_|refine AA J J J J ?_|refine Ak Ac J J J J J J J (ck) J J ?_|refine Ak Ac J J J J J J J (cf) J J ?_|refine Ak Ac J J J J J J J (cs) J J ?_|refine AO J J J J J (cb) J J ?_|refine E0 80 114 J J J hfz ?_|refine SO Ac (l:=1) J J J J J J FM (Do J J) (Nat.le_refl _) (by simp;omega) J ?_)
   all_goals try exact absurd hn3 h
   all_goals exact Au J (Sub.of_eq J)
end Go.Proofs.YtpdmaenhenfofaaGreatDoor
namespace Go.Proofs.YtpdmaenhenfofaaGreatDoor
open Go.Am
attribute [local irreducible] Decidable.decide
set_option maxRecDepth 100000
set_option maxHeartbeats 1000000
theorem ZF (b:Batch) (off:Int) (hb:A1 b=true) (h1: -1≤off) (h2:off≤2000000000):Ct Tryz.prog 207 [.agg (Aj (Ap b)),.t (.int .i64 off)] [] (.t (.slice .any 5 ((BS b off).map AC))) []:=by
 have hm:=AU hb
 have hlm:(b.recs.map Bu).length=b.recs.length:=List.length_map ..
 refine ct0 Ac Tryz.func207 J false J J ?_
 repeat'(first|refine Ae Ac J J J ?_|refine Ag ?_|refine Ah ?_|refine Ai Ac J J ?_|refine Al ?_)
 refine Tr.nilRow 5 43 5 J J ?_
 refine AM (ι:=Nat) (fun i=>i≤b.recs.length) (fun i=>[(1,.t (.int .i64 off)),(2,.ref 4 0),(5,.row 86 5 0 (((b.recs.take i).mapIdx (FA b off)).map AC).length),(6,.t (.int .i64 i))]) (fun i=>[(86,.grow 5 (((b.recs.take i).mapIdx (FA b off)).map AC)),(4,.cells (Aj (Ap b)))]) (fun i=>b.recs.length-i) 0 Z ?_ ?_
 ·exact AR [] (Ad J J (Ad J J (Ad J J (Ad J J Aq)))) J
 rintro i hi
 by_cases hlt:i<b.recs.length
 ·have hr:b.recs[i]?=some b.recs[i]:=List.getElem?_eq_getElem hlt
  generalize b.recs[i]=r at hr
  have hw1:IntKind.i64.wrap (b.seq+i)=b.seq+i:=A0 O O
  have hw2:IntKind.i64.wrap (off+i)=off+i:=A0 O O
  repeat'(first|refine An Ac J J J J J ?_|refine Ae Ac J J J ?_|refine Ag ?_|refine Ah ?_|refine Ai Ac J J ?_|(refine Af J (ht:=fun h=>?_) (hf:=fun h=>?_)<;>try exact prn)|refine Al ?_|refine Ao ?_|refine AN Ac J J J J J J J J J J J J J J (by simp[AW];omega) ?_|refine A9 (id:=5) (m:=23) Ac Y J J J J ?_|refine AA J J J J ?_|refine Bz J J J J J J J (A2 Aa) J ?_)
  all_goals refine AF (i+1) hlt O [7] (Ad J J (Ad J J (Ad J ?_ (Ad J (by rw[A0 O O];rfl) Aq)))) ?_
  all_goals rw[QP hr,List.map_append,FA]
  all_goals try rw[hw1]
  all_goals try rw[hw2]
  all_goals first|rw[if_neg h]|rw[if_pos (Classical.not_not.1 h)]|rw[if_pos h]
  all_goals try rfl
 ·repeat'(first|refine Ae Ac J J J ?_|refine Ag ?_|refine Ah ?_|refine Ai Ac J J ?_|(refine Af J (ht:=fun h=>?_) (hf:=fun h=>?_)<;>try exact prn)|refine AB ?_|refine Ar ?_)
  refine Au J (Sub.of_eq ?_)
  have ht:b.recs.take i=b.recs:=List.take_of_length_le O
  rw[ht]
  exact(JL _ _ _ _ J).trans (by rfl)
def opI (l:List Opn) (k:Int):Nat:=(l.findIdx? (fun x=>decide (x.pid≥k))).getD l.length
def opB (l:List Opn) (k:Int):Bool:=decide ((l[opI l k]?.map Opn.pid)=some k)
theorem ZW {l:List Opn} {k:Int} {i:Nat} {x:Opn} (h:l[i]?=some x) (ha:(l.take i).any (fun x=>decide (x.pid≥k))=false) (hp:k≤x.pid):opI l k=i:=by
 have hlt:=(List.getElem?_eq_some_iff.1 h).1
 have e:=(List.getElem?_eq_some_iff.1 h).2
 have:l.findIdx? (fun x=>decide (x.pid≥k))=some i:=by
  rw[List.findIdx?_eq_some_iff_getElem]
  refine⟨hlt,by rw[e];simpa using hp,fun j hj=>?_⟩
  have:=List.any_eq_false.1 ha l[j] (List.mem_take_iff_getElem.2 ⟨j,by omega,J⟩)
  simpa using this
 simp[opI,this]
theorem Ah5 {l:List Opn} {k:Int} (ha:l.any (fun x=>decide (x.pid≥k))=false):opI l k=l.length:=by
 have:l.findIdx? (fun x=>decide (x.pid≥k))=none:=by
  rw[List.findIdx?_eq_none_iff];intro x hx;simpa using List.any_eq_false.1 ha x hx
 simp[opI,this]
theorem JD (p:Part) (k:Int) (hl:p.opens.length≤1000000):Ct Tryz.prog 152 [.agg (Aj (A5 p)),.t (.int .i64 k)] [] (.tuple [.t (.int .i64 (opI p.opens k:Int)),.t (.bool (opB p.opens k))]) []:=by
 have hlm:(p.opens.map Aw).length=p.opens.length:=List.length_map ..
 refine ct0 Ac Tryz.func152 J false J J ?_
 repeat'(first|refine Ae Ac J J J ?_|refine Ag ?_|refine Ah ?_|refine Ai Ac J J ?_|refine Al ?_)
 refine AM (ι:=Nat) (fun i=>i≤p.opens.length∧(p.opens.take i).any (fun x=>decide (x.pid≥k))=false) (fun i=>[(1,.t (.int .i64 k)),(2,.ref 4 0),(6,.t (.int .i64 i))]) (fun _=>[(4,.cells (Aj (A5 p)))]) (fun i=>p.opens.length-i) 0 Z ?_ ?_
 ·exact AR [] (Ad J J (Ad J J (Ad J J Aq))) J
 rintro i ⟨hi,hany⟩
 by_cases hlt:i<p.opens.length
 ·have hr:p.opens[i]?=some p.opens[i]:=List.getElem?_eq_getElem hlt
  generalize p.opens[i]=r at hr
  by_cases hk:r.pid<k
  ·repeat'(first|refine Ae Ac J J J ?_|refine Ag ?_|refine Ah ?_|refine Ai Ac J J ?_|(refine AZ J J J J J (ht:=fun h=>?_) (hf:=fun h=>?_)<;>try exact prn)|(refine Af J (ht:=fun h=>?_) (hf:=fun h=>?_)<;>try exact prn)|refine Al ?_|refine Ao ?_|refine AD Ac J J J J J J J (A2 Aa) J ?_)
   all_goals try(exfalso;omega)
   all_goals refine AF (i+1) ⟨hlt,Cd hr hany (by simp;omega)⟩ O [] (Ad J J (Ad J J (Ad J (by rw[A0 O O];rfl) Aq))) J
  ·have hp:=ZW hr hany O
   have hb:opB p.opens k=decide (r.pid=k):=by simp[opB,hp,hr]
   rw[hp,hb]
   repeat'(first|refine Ae Ac J J J ?_|refine Ag ?_|refine Ah ?_|refine Ai Ac J J ?_|(refine AZ J J J J J (ht:=fun h=>?_) (hf:=fun h=>?_)<;>try exact prn)|(refine Af J (ht:=fun h=>?_) (hf:=fun h=>?_)<;>try exact prn)|refine AB ?_|refine Ar ?_|refine AD Ac J J J J J J J (A2 Aa) J ?_|refine A9 (id:=4) (m:=17) Ac Y J J J J ?_|refine AA J J J J ?_|(refine EQ J J J J J (ht:=fun h=>?_) (hf:=fun h=>?_)<;>try exact prn)|refine Bz J J J J J J J (A2 Aa) J ?_)
   all_goals try(exfalso;omega)
   all_goals exact Au J (AK ⟨Sub.refl _,BJ (by first|rfl|(by_cases h:r.pid=k<;>simp[h])),trivial⟩)
 ·have hp:=Ah5 (k:=k) (l:=p.opens) (by rw[←hany,List.take_of_length_le O])
  have hb:opB p.opens k=false:=by simp[opB,hp]
  have e:i=p.opens.length:=by omega
  subst e
  rw[hp,hb]
  repeat'(first|refine Ae Ac J J J ?_|refine Ag ?_|refine Ah ?_|refine Ai Ac J J ?_|(refine AZ J J J J J (ht:=fun h=>?_) (hf:=fun h=>?_)<;>try exact prn)|(refine Af J (ht:=fun h=>?_) (hf:=fun h=>?_)<;>try exact prn)|refine AB ?_|refine Ar ?_|refine A9 (id:=4) (m:=17) Ac Y J J J J ?_|refine AA J J J J ?_|(refine EQ J J J J J (ht:=fun h=>?_) (hf:=fun h=>?_)<;>try exact prn))
  all_goals exact Au J (Sub.of_eq J)
theorem Mg (p:Part) (b:Batch) (hb:A1 b=true) (h1:0≤p.fin) (h2:p.fin≤1000000000) (h3:p.rows.length≤1000000):Ct Tryz.prog 186 [.agg (Aj (A5 p)),.agg (Aj (Ap b))] [] (.agg (Aj (A5 {p with fin:=p.fin+b.recs.length,rows:=p.rows++BS b p.fin}))) []:=by
 have hm:=AU hb
 have hlr:(b.recs.map Bu).length=b.recs.length:=List.length_map ..
 have cr:=ZF b p.fin hb O O
 have hlp:(p.rows.map AC).length=p.rows.length:=List.length_map ..
 have hrl:(BS b p.fin).length=b.recs.length:=ZE
 refine ct0 Ac Tryz.func186 J false J J ?_
 repeat'(first|refine An Ac J J J J J ?_|refine Ae Ac J J J ?_|refine Ag ?_|refine Ah ?_|refine Ai Ac J J ?_|refine Ar ?_|refine Ew Ac J J J J J J J J J J J J J (by simp[AW];omega) ?_|refine AN Ac J J J J J J J J J J J J J J (by simp[AW];omega) ?_|refine Ak Ac J J J J J J J (cr) J J ?_)
 refine Au J (Sub.of_eq (Eq.trans (b:=BA 30 5 (p.rows.map AC++(BS b p.fin).map AC) (.agg [.t (.int .i64 p.start),.t (.int .i64 (IntKind.i64.wrap (p.fin+((b.recs.map Bu).length:Int)))),.row 30 5 0 (p.rows.map AC++(BS b p.fin).map AC).length,.t (.slice .any 3 (p.opens.map Aw)),.t (.slice .any 4 (p.prods.map Av))])) J ?_))
 rw[hlr,A0 O O]
 simp[BA,DD,A5,Aj]
 exact List.take_of_length_le Z
end Go.Proofs.YtpdmaenhenfofaaGreatDoor
namespace Go.Proofs.YtpdmaenhenfofaaGreatDoor
open Go.Am
attribute [local irreducible] Decidable.decide
set_option maxRecDepth 100000
set_option maxHeartbeats 1000000
theorem Ah1 {l:List Opn} (h:Srt Opn.pid l) (o:Opn):l.take (opI l o.pid)++o::l.drop (if opB l o.pid=true then opI l o.pid+1 else opI l o.pid)=Et Opn.pid o l:=by
 unfold opB opI
 cases hf:l.findIdx? (fun x=>decide (x.pid≥o.pid))with
 |none=>
  have hn: ∀x∈l,x.pid<o.pid:=fun x hx=>by have:=List.findIdx?_eq_none_iff.1 hf x hx;simp at this;omega
  simp only[Option.getD_none,List.getElem?_eq_none (Nat.le_refl _),Option.map_none,Et]
  rw[List.filter_eq_self.2 (fun x hx=>by simpa using hn x hx),List.filter_eq_nil_iff.2 (fun x hx=>by have:=hn x hx;simp;omega)]
  simp
 |some i=>
  obtain⟨h1,x,hx,h2⟩:=WT hf
  have hd:=BE hx
  have hsp:l=l.take i++l.drop i:=(List.take_append_drop i l).symm
  have hs2:Srt Opn.pid (x::l.drop (i+1)):=by rw[←hd];exact List.Pairwise.sublist (List.drop_sublist i l) h
  have hs3:=(List.pairwise_cons.1 hs2).1
  have hb: ∀y∈l.drop i,o.pid≤y.pid:=fun y hy=>by
   rw[hd]at hy
   rcases List.mem_cons.1 hy with rfl|hy
   ·exact h2
   ·have:=hs3 y hy;omega
  obtain⟨q1,q2⟩:=Gj (f:=Opn.pid) h1 hb
  rw[←hsp]at q1 q2
  have hall:(l.drop (i+1)).filter (fun y=>decide (o.pid<y.pid))=l.drop (i+1):=List.filter_eq_self.2 fun y hy=>by have:=hs3 y hy;simp;omega
  simp only[Option.getD_some,hx,Option.map_some,Option.some.injEq,decide_eq_true_eq,Et]
  rw[q1,q2,hd,List.filter_cons,hall]
  by_cases e:x.pid=o.pid
  ·have: ¬o.pid<x.pid:=by omega
   simp[e]
  ·have:o.pid<x.pid:=by omega
   simp[e,this,hd]
theorem N3 {l:List Opn} (h:Srt Opn.pid l) (k:Int):(opB l k=false∧l.find? (fun o=>decide (o.pid=k))=none)∨ ∃o,opB l k=true∧l[opI l k]?=some o∧o.pid=k∧l.find? (fun o=>decide (o.pid=k))=some o:=by
 cases hb:opB l k with
 |true=>
  right
  simp only[opB,decide_eq_true_eq]at hb
  cases hg:l[opI l k]? with
  |none=>rw[hg]at hb;simp at hb
  |some o=>
   rw[hg]at hb
   simp at hb
   exact⟨o,J,J,hb,GF h (List.mem_of_getElem? hg) hb⟩
 |false=>
  left
  refine⟨J,Xw fun x hx hk=>?_⟩
  obtain⟨i,hi,rfl⟩:=List.mem_iff_getElem.1 hx
  simp only[opB,decide_eq_false_iff_not]at hb
  apply hb
  have e:opI l k=i:=by
   refine ZW (List.getElem?_eq_getElem hi) ?_ O
   rw[List.any_eq_false]
   intro y hy
   obtain⟨j,hj,rfl⟩:=List.mem_take_iff_getElem.1 hy
   have:=List.pairwise_iff_getElem.1 h j i O hi O
   simp;omega
  rw[e,List.getElem?_eq_getElem hi];simp[hk]
theorem Ah6 (l:List Opn) (k:Int):opI l k≤l.length:=by
 unfold opI
 cases h:l.findIdx? (fun x=>decide (x.pid≥k))with
 |none=>simp
 |some i=>have:=(List.findIdx?_eq_some_iff_getElem.1 h).1;simp;omega
theorem T1 (p:Part) (b:Batch) (hs:Srt Opn.pid p.opens) (hl:p.opens.length≤1000) (ht:b.txn=true) (hr:GO p b=none) (hso: ∀o∈p.opens,o.batches.length≤1000):Ct Tryz.prog 151 [.agg (Aj (A5 p)),.agg (Aj (Ap b))] [] (.tuple [.agg (Aj (A5 {p with opens:=Et Opn.pid (C1 p.opens b) p.opens})),.t (.bool true)]) []:=by
 have hlm:(p.opens.map Aw).length=p.opens.length:=List.length_map ..
 have co:=JD p b.pid O
 have hle:=Ah6 p.opens b.pid
 have hins:=Ah1 hs (C1 p.opens b)
 rw[Il]at hins
 rcases N3 hs b.pid with⟨hb,hf⟩|⟨o,hb,hg,hpid,hf⟩
 ·rw[hb]at co hins
  simp only[Bool.false_eq_true,if_false]at hins
  rw[←hins]
  have hoo:C1 p.opens b=⟨b.pid,b.epoch,[b]⟩:=by simp[C1,hf]
  rw[hoo]
  generalize opI p.opens b.pid=k at*
  have hfz:BA 146 5 [Ap b] (.agg [.t (.int .i64 b.pid),.t (.int .i64 b.epoch),.row 146 5 0 1])=.agg (Aj (Aw ⟨b.pid,b.epoch,[b]⟩)):=by simp[BA,DD,Aw,Aj]
  refine ct0 Ac Tryz.func151 J false J J ?_
  repeat'(first|refine E0 76 146 J J J hfz ?_|refine An Ac J J J J J ?_|refine Ae Ac J J J ?_|refine Ag ?_|refine Ah ?_|refine Ai Ac J J ?_|(refine Af J (ht:=fun h=>?_) (hf:=fun h=>?_)<;>try exact prn)|refine Ao ?_|refine Ar ?_|refine Ew Ac J J J J J J J J J J J J J (by simp[AW];omega) ?_|refine AN Ac J J J J J J J J J J J J J J (by simp[AW];omega) ?_|refine Ak Ac J J J J J J J (co) J J ?_|refine DL Ac (l:=0) (h:=k) J J J J J J (Do J J) FM O O (.inl ⟨J,J⟩) (show _=(p.opens.take k).map Aw by simp[List.map_take]) J ?_|refine DL Ac (l:=k) (h:=(p.opens.map Aw).length) J J J J J J FM (Do J J) O O (.inl ⟨J,J⟩) (show _=(p.opens.drop k).map Aw by rw[←List.map_drop,List.take_of_length_le Z]) J ?_)
  all_goals refine Au J (Sub.of_eq (Eq.trans (b:=.tuple [BA 46 3 ((p.opens.take k).map Aw++[Aw ⟨b.pid,b.epoch,[b]⟩]++(p.opens.drop k).map Aw) (.agg [.t (.int .i64 p.start),.t (.int .i64 p.fin),.t (.slice .any 5 (p.rows.map AC)),.row 46 3 0 ((p.opens.take k).map Aw++[Aw ⟨b.pid,b.epoch,[b]⟩]++(p.opens.drop k).map Aw).length,.t (.slice .any 4 (p.prods.map Av))]),.t (.bool true)]) J ?_))
  all_goals simp[BA,DD,A5,Aj,Aw]
  all_goals try exact List.take_of_length_le Z
  all_goals trace_state
 ·rw[hb]at co hins
  simp only[if_true]at hins
  rw[←hins]
  have hoo:C1 p.opens b={o with batches:=o.batches++[b]}:=by simp[C1,hf]
  rw[hoo]
  obtain⟨_,he,h8⟩:=T0 hr hf
  have hlt:=(List.getElem?_eq_some_iff.1 hg).1
  have hlb:(o.batches.map Ap).length=o.batches.length:=List.length_map ..
  generalize opI p.opens b.pid=k at*
  have hw:IntKind.i64.wrap ((k:Int)+1)=((k+1:Nat):Int):=by rw[A0 O O];rfl
  have hfz:BA 124 5 (o.batches.map Ap++[Ap b]) (.agg [.t (.int .i64 b.pid),.t (.int .i64 b.epoch),.row 124 5 0 (o.batches.map Ap++[Ap b]).length])=.agg (Aj (Aw ⟨b.pid,b.epoch,o.batches++[b]⟩)):=by
   simp only[BA,DD,Nat.beq_refl,cond_true,if_true,Nat.zero_add,Nat.le_refl,List.drop_zero,List.take_length]
   simp[Aw,Aj]
  have hso2:=hso o (List.mem_of_getElem? hg)
  have ho:({o with batches:=o.batches++[b]}:Opn)=⟨b.pid,b.epoch,o.batches++[b]⟩:=by rw[←hpid,←he]
  rw[ho]
  refine ct0 Ac Tryz.func151 J false J J ?_
  repeat'(first|refine E0 76 124 J J J hfz ?_|refine An Ac J J J J J ?_|refine Ae Ac J J J ?_|refine Ag ?_|refine Ah ?_|refine Ai Ac J J ?_|(refine AP J J J J J (ht:=fun h=>?_) (hf:=fun h=>?_)<;>try exact prn)|(refine Af J (ht:=fun h=>?_) (hf:=fun h=>?_)<;>try exact prn)|refine Ao ?_|refine Ar ?_|refine AD Ac J J J J J J J (A2 Aa) J ?_|refine Ew Ac J J J J J J J J J J J J J (by simp[AW];omega) ?_|refine AN Ac J J J J J J J J J J J J J J (by simp[AW];omega) ?_|refine A9 (id:=7) (m:=13) Ac Y J J J J ?_|refine A9 (id:=9) (m:=8) Ac Y J J J J ?_|refine AA J J J J ?_|(refine Fi J J J J J (ht:=fun h=>?_) (hf:=fun h=>?_)<;>try exact prn)|refine Bz J J J J J J J (A2 Aa) J ?_|refine Ak Ac J J J J J J J (co) J J ?_|refine DL Ac (l:=0) (h:=k) J J J J J J (Do J J) FM O O (.inl ⟨J,J⟩) (show _=(p.opens.take k).map Aw by simp[List.map_take]) J ?_|refine DL Ac (l:=k) (h:=(p.opens.map Aw).length) J J J J J J FM (Do J J) O O (.inl ⟨J,J⟩) (show _=(p.opens.drop k).map Aw by rw[←List.map_drop,List.take_of_length_le Z]) J ?_|refine DL Ac (l:=k+1) (h:=(p.opens.map Aw).length) J J J J J J FM (Do J hw) O O (.inl ⟨J,J⟩) (show _=(p.opens.drop (k+1)).map Aw by rw[←List.map_drop,List.take_of_length_le Z]) J ?_)
  all_goals refine Au J (Sub.of_eq (Eq.trans (b:=.tuple [BA 46 3 ((p.opens.take k).map Aw++[Aw ⟨b.pid,b.epoch,o.batches++[b]⟩]++(p.opens.drop (k+1)).map Aw) (.agg [.t (.int .i64 p.start),.t (.int .i64 p.fin),.t (.slice .any 5 (p.rows.map AC)),.row 46 3 0 ((p.opens.take k).map Aw++[Aw ⟨b.pid,b.epoch,o.batches++[b]⟩]++(p.opens.drop (k+1)).map Aw).length,.t (.slice .any 4 (p.prods.map Av))]),.t (.bool true)]) J ?_))
  all_goals simp[BA,DD,A5,Aj,Aw]
  all_goals try exact List.take_of_length_le Z
  all_goals trace_state
end Go.Proofs.YtpdmaenhenfofaaGreatDoor
namespace Go.Proofs.YtpdmaenhenfofaaGreatDoor
open Go.Am
attribute [local irreducible] Decidable.decide
set_option maxRecDepth 100000
set_option maxHeartbeats 1000000
theorem YU (p:Part) (pid:Int) (hs:Srt Opn.pid p.opens) (hl:p.opens.length≤1000) (o:Opn) (k:Nat) (hk:p.opens[k]?=some o) (hpid:o.pid=pid):Ct Tryz.prog 185 [.agg (Aj (A5 p)),.t (.int .i64 pid)] [] (.tuple [.agg (Aj (A5 {p with opens:=p.opens.eraseIdx k})),.t (.slice .any 5 (o.batches.map Ap))]) []:=by
 have hlm:(p.opens.map Aw).length=p.opens.length:=List.length_map ..
 have co:=JD p pid O
 have hlt:=(List.getElem?_eq_some_iff.1 hk).1
 have hkk:opI p.opens pid=k∧opB p.opens pid=true:=by
  rcases N3 hs pid with⟨_,hf⟩|⟨o2,hb,hg,hp2,_⟩
  ·have:=List.find?_eq_none.1 hf o (List.mem_of_getElem? hk)
   simp[hpid]at this
  ·have hlt2:=(List.getElem?_eq_some_iff.1 hg).1
   refine⟨?_,hb⟩
   have e1:=(List.getElem?_eq_some_iff.1 hg).2
   have e2:=(List.getElem?_eq_some_iff.1 hk).2
   rcases Nat.lt_trichotomy (opI p.opens pid) k with h|h|h
   ·have:=List.pairwise_iff_getElem.1 hs _ _ hlt2 hlt h
    rw[e1,e2]at this;omega
   ·exact h
   ·have:=List.pairwise_iff_getElem.1 hs _ _ hlt hlt2 h
    rw[e1,e2]at this;omega
 rw[hkk.1,hkk.2]at co
 have hw:IntKind.i64.wrap ((k:Int)+1)=((k+1:Nat):Int):=by rw[A0 O O];rfl
 have her:p.opens.eraseIdx k=p.opens.take k++p.opens.drop (k+1):=List.eraseIdx_eq_take_drop_succ ..
 rw[her]
 refine ct0 Ac Tryz.func185 J false J J ?_
 repeat'(first|refine An Ac J J J J J ?_|refine Ae Ac J J J ?_|refine Ag ?_|refine Ah ?_|refine Ai Ac J J ?_|(refine Af J (ht:=fun h=>?_) (hf:=fun h=>?_)<;>try exact prn)|refine Ao ?_|refine Ar ?_|refine AD Ac J J J J J J J (A2 Aa) J ?_|refine Ew Ac J J J J J J J J J J J J J (by simp[AW];omega) ?_|refine AN Ac J J J J J J J J J J J J J J (by simp[AW];omega) ?_|refine Ak Ac J J J J J J J (co) J J ?_|refine DL Ac (l:=0) (h:=k) J J J J J J (Do J J) FM O O (.inl ⟨J,J⟩) (show _=(p.opens.take k).map Aw by simp[List.map_take]) J ?_|refine DL Ac (l:=k+1) (h:=(p.opens.map Aw).length) J J J J J J FM (Do J hw) O O (.inl ⟨J,J⟩) (show _=(p.opens.drop (k+1)).map Aw by rw[←List.map_drop,List.take_of_length_le Z]) J ?_)
 all_goals refine Au J (Sub.of_eq (Eq.trans (b:=.tuple [BA 60 3 ((p.opens.take k).map Aw++(p.opens.drop (k+1)).map Aw) (.agg [.t (.int .i64 p.start),.t (.int .i64 p.fin),.t (.slice .any 5 (p.rows.map AC)),.row 60 3 0 ((p.opens.take k).map Aw++(p.opens.drop (k+1)).map Aw).length,.t (.slice .any 4 (p.prods.map Av))]),.t (.slice .any 5 (o.batches.map Ap))]) J ?_))
 all_goals simp[BA,DD,A5,Aj]
 all_goals try exact List.take_of_length_le Z
theorem Ol (p:Part) (b:Batch) (hp:POk p) (hl:p.opens.length≤1000) (hrl:p.rows.length≤1000000) (hb:A1 b=true) (hc:B4 p.prods b=0) (hi:Cl p.prods b=false) (ht:b.txn=false) (hno: ∀o∈p.opens,o.pid≠b.pid):Ct Tryz.prog 146 [.agg (Aj (A5 p)),.agg (Aj (Ap b))] [] (.tuple [.agg (Aj (A5 (Co p b))),.t (.bool true)]) []:=by
 have b0:=hp.b0
 have b1:=hp.b1
 have b2:=hp.b2
 have co:=JD p b.pid O
 have hob:opB p.opens b.pid=false:=by
  rcases N3 hp.osrt b.pid with⟨h,_⟩|⟨o,_,hg,hpid,_⟩
  ·exact h
  ·exact absurd hpid (hno o (List.mem_of_getElem? hg))
 rw[hob]at co
 have ct:=Hp p.prods b p.fin hp.may hb hc hi O O
 have ca:=Mg {p with prods:=Dt p.prods (Bx p.prods b p.fin)} b hb (by simp only;omega) (by simp only;omega) hrl
 have hpl:Co p b={p with fin:=p.fin+b.recs.length,rows:=p.rows++BS b p.fin,prods:=Dt p.prods (Bx p.prods b p.fin)}:=by
  unfold Co;rw[DT hc hi (base:=p.fin) ⟨by omega,by omega⟩]
 rw[hpl]
 refine ct0 Ac Tryz.func146 J false J J ?_
 repeat'(first|refine An Ac J J J J J ?_|refine Ae Ac J J J ?_|refine Ag ?_|refine Ah ?_|refine Ai Ac J J ?_|(refine AP J J J J J (ht:=fun h=>?_) (hf:=fun h=>?_)<;>try exact prn)|(refine Af J (ht:=fun h=>?_) (hf:=fun h=>?_)<;>try exact prn)|refine Ao ?_|refine Ar ?_|refine Ak Ac J J J J J J J (co) J J ?_|refine Ak Ac J J J J J J J (ct) J J ?_|refine Ak Ac J J J J J J J (ca) J J ?_)
 all_goals try(exfalso;simp_all;done)
 all_goals exact Au J (Sub.of_eq J)
theorem UZ (p:Part) (n:Int) (h1:p.start≤n) (h2:n≤p.fin) (hl:p.rows.length≤1000000):Ct Tryz.prog 149 [.agg (Aj (A5 p)),.agg (Aj (A4 (eC n)))] [] (.tuple [.agg (Aj (A5 (LW p n))),.t (.bool true)]) []:=by
 have hlm:(p.rows.map AC).length=p.rows.length:=List.length_map ..
 have eo:(eC n).offset=n:=rfl
 have ek:(eC n).kind=2:=rfl
 refine ct0 Ac Tryz.func149 J false J J ?_
 repeat'(first|refine An Ac J J J J J ?_|refine Ae Ac J J J ?_|refine Ag ?_|refine Ah ?_|refine Ai Ac J J ?_|(refine AP J J J J J (ht:=fun h=>?_) (hf:=fun h=>?_)<;>try exact prn)|(refine Af J (ht:=fun h=>?_) (hf:=fun h=>?_)<;>try exact prn)|refine Al ?_|refine Ao ?_)
 all_goals try(exfalso;omega)
 all_goals refine Tr.nilRow 6 54 5 J J ?_
 all_goals refine AM (ι:=Nat) (fun i=>i≤p.rows.length) (fun i=>[(2,.ref 4 0),(4,.ref 8 0),(6,.row 108 5 0 (((p.rows.take i).filter (fun r=>decide (n≤r.offset))).map AC).length),(7,.t (.int .i64 i))]) (fun i=>[(108,.grow 5 (((p.rows.take i).filter (fun r=>decide (n≤r.offset))).map AC)),(8,.cells (Aj F8.zero)),(4,.cells (Aj (A5 {p with start:=n})))]) (fun i=>p.rows.length-i) 0 Z ?_ ?_
 ·exact AR [3] (Ad J J (Ad J J (Ad J J (Ad J J Aq)))) J
 rintro i hi
 have hfl:((p.rows.take i).filter (fun r=>decide (n≤r.offset))).length≤1000000:=Nat.le_trans (List.length_filter_le ..) (by rw[List.length_take];omega)
 have hfm:(((p.rows.take i).filter (fun r=>decide (n≤r.offset))).map AC).length=((p.rows.take i).filter (fun r=>decide (n≤r.offset))).length:=List.length_map ..
 by_cases hlt:i<p.rows.length
 ·have hr:p.rows[i]?=some p.rows[i]:=List.getElem?_eq_getElem hlt
  generalize p.rows[i]=r at hr
  by_cases hge:n≤r.offset
  ·have hts:(p.rows.take (i+1)).filter (fun r=>decide (n≤r.offset))=(p.rows.take i).filter (fun r=>decide (n≤r.offset))++[r]:=by rw[AL hr,List.filter_append];simp[hge]
   repeat'(first|refine An Ac J J J J J ?_|refine Ae Ac J J J ?_|refine Ag ?_|refine Ah ?_|refine Ai Ac J J ?_|(refine Af J (ht:=fun h=>?_) (hf:=fun h=>?_)<;>try exact prn)|refine Al ?_|refine Ao ?_|refine AD Ac J J J J J J J (A2 Aa) J ?_|refine AN Ac J J J J J J J J J J J J J J (by simp[AW];omega) ?_|refine A9 (id:=10) (m:=8) Ac Y J J J J ?_|refine AA J J J J ?_|refine Bz J J J J J J J (A2 Aa) J ?_)
   all_goals try(exfalso;omega)
   all_goals refine AF (i+1) hlt O [] (Ad J J (Ad J J (Ad J ?_ (Ad J (by rw[A0 O O];rfl) Aq)))) ?_
   all_goals rw[hts,List.map_append]
   all_goals rfl
  ·have hts:(p.rows.take (i+1)).filter (fun r=>decide (n≤r.offset))=(p.rows.take i).filter (fun r=>decide (n≤r.offset)):=by rw[AL hr,List.filter_append];simp[hge]
   repeat'(first|refine Ae Ac J J J ?_|refine Ag ?_|refine Ah ?_|refine Ai Ac J J ?_|(refine Af J (ht:=fun h=>?_) (hf:=fun h=>?_)<;>try exact prn)|refine Al ?_|refine Ao ?_|refine A9 (id:=10) (m:=8) Ac Y J J J J ?_|refine AA J J J J ?_|refine Bz J J J J J J J (A2 Aa) J ?_)
   all_goals try(exfalso;omega)
   all_goals refine AF (i+1) hlt O [] (Ad J J (Ad J J (Ad J ?_ (Ad J (by rw[A0 O O];rfl) Aq)))) ?_
   all_goals rw[hts]
   all_goals rfl
 ·have hin:i=p.rows.length:=by omega
  subst hin
  rw[List.take_length]
  repeat'(first|refine An Ac J J J J J ?_|refine Ae Ac J J J ?_|refine Ag ?_|refine Ah ?_|refine Ai Ac J J ?_|(refine Af J (ht:=fun h=>?_) (hf:=fun h=>?_)<;>try exact prn)|refine AB ?_|refine Ar ?_)
  all_goals refine Au J (Sub.of_eq (Eq.trans (b:=.tuple [BA 108 5 ((p.rows.filter (fun r=>decide (n≤r.offset))).map AC) (.agg [.t (.int .i64 n),.t (.int .i64 p.fin),.row 108 5 0 ((p.rows.filter (fun r=>decide (n≤r.offset))).map AC).length,.t (.slice .any 3 (p.opens.map Aw)),.t (.slice .any 4 (p.prods.map Av))]),.t (.bool true)]) J ?_))
  all_goals simp[BA,DD,A5,Aj,LW]
  all_goals try exact List.take_of_length_le Z
end Go.Proofs.YtpdmaenhenfofaaGreatDoor
namespace Go.Proofs.YtpdmaenhenfofaaGreatDoor
open Go.Am
attribute [local irreducible] Decidable.decide
set_option maxRecDepth 100000
set_option maxHeartbeats 1000000
structure GP (p:Part):Prop where
 ok:POk p
 rows:p.rows.length≤100000
 opens:p.opens.length≤1000
 fin:p.fin≤1000000
inductive N1:Part→Entry→Part→Prop
 |P {p:Part} (b:Batch) (hb:A1 b=true) (hc:B4 p.prods b=0) (hi:Cl p.prods b=false) (ht:b.txn=false) (hno: ∀o∈p.opens,o.pid≠b.pid):N1 p (eD b) (Co p b)
 |T {p:Part} (b:Batch) (hb:A1 b=true) (hc:B4 p.prods b=0) (hi:Cl p.prods b=false) (ht:b.txn=true) (hr:GO p b=none):N1 p (eD b) (Gc p b)
 |M {p:Part} (k:Nat) (o:Opn) (yes:Bool) (hk:p.opens[k]?=some o):N1 p (eM o.pid o.epoch yes) (Eb 0 p k o yes)
 |C {p:Part} (n:Int) (h1:p.start≤n) (h2:n≤p.fin):N1 p (eC n) (LW p n)
theorem GP.bl {p:Part} (h:GP p): ∀o∈p.opens,o.batches.length≤1000:=fun o ho=>by have:=Cc (h.ok.ook o ho).1;omega
theorem Al3 {l:List Opn} (hs:Srt Opn.pid l) {k:Nat} {o:Opn} (hk:l[k]?=some o):opI l o.pid=k∧opB l o.pid=true:=by
 have hlt:=(List.getElem?_eq_some_iff.1 hk).1
 rcases N3 hs o.pid with⟨_,hf⟩|⟨o2,hb,hg,hp2,_⟩
 ·have:=List.find?_eq_none.1 hf o (List.mem_of_getElem? hk)
  simp at this
 ·have hlt2:=(List.getElem?_eq_some_iff.1 hg).1
  refine⟨?_,hb⟩
  have e1:=(List.getElem?_eq_some_iff.1 hg).2
  have e2:=(List.getElem?_eq_some_iff.1 hk).2
  rcases Nat.lt_trichotomy (opI l o.pid) k with h|h|h
  ·have:=List.pairwise_iff_getElem.1 hs _ _ hlt2 hlt h
   rw[e1,e2]at this;omega
  ·exact h
  ·have:=List.pairwise_iff_getElem.1 hs _ _ hlt hlt2 h
   rw[e1,e2]at this;omega
theorem ZZ {p:Part} (g:GP p) (b:Batch) (hb:A1 b=true) (hc:B4 p.prods b=0) (hi:Cl p.prods b=false) (ht:b.txn=false) (hno: ∀o∈p.opens,o.pid≠b.pid):Ct Tryz.prog 145 [.agg (Aj (A5 p)),.agg (Aj (A4 (eD b)))] [] (.tuple [.agg (Aj (A5 (Co p b))),.t (.bool true)]) []:=by
 have cp:=Ol p b g.ok g.opens (by have:=g.rows;omega) hb hc hi ht hno
 have ek:(eD b).kind=0:=rfl
 have et:(eD b).b.txn=false:=ht
 refine ct0 Ac Tryz.func145 J false J J ?_
 repeat'(first|refine An Ac J J J J J ?_|refine Ae Ac J J J ?_|refine Ag ?_|refine Ah ?_|refine Ai Ac J J ?_|(refine Af J (ht:=fun h=>?_) (hf:=fun h=>?_)<;>try exact prn)|refine Al ?_|refine Ao ?_|refine Ar ?_|refine Ak Ac J J J J J J J (cp) J J ?_)
 all_goals try(exfalso;simp_all;done)
 all_goals exact Au J (Sub.of_eq J)
theorem ZY {p:Part} (g:GP p) (b:Batch) (hb:A1 b=true) (hc:B4 p.prods b=0) (hi:Cl p.prods b=false) (ht:b.txn=true) (hr:GO p b=none):Ct Tryz.prog 145 [.agg (Aj (A5 p)),.agg (Aj (A4 (eD b)))] [] (.tuple [.agg (Aj (A5 (Gc p b))),.t (.bool true)]) []:=by
 have ct:=Hp p.prods b (-1) g.ok.may hb hc hi O O
 have cp:=T1 p b g.ok.osrt g.opens ht hr g.bl
 have ek:(eD b).kind=0:=rfl
 have et:(eD b).b.txn=true:=ht
 have hq:Gc p b={p with opens:=Et Opn.pid (C1 p.opens b) p.opens,prods:=Dt p.prods (Bx p.prods b (-1))}:=by
  unfold Gc;rw[DT hc hi (base:= -1) ⟨by omega,by omega⟩]
 rw[hq]
 refine ct0 Ac Tryz.func145 J false J J ?_
 repeat'(first|refine An Ac J J J J J ?_|refine Ae Ac J J J ?_|refine Ag ?_|refine Ah ?_|refine Ai Ac J J ?_|(refine Af J (ht:=fun h=>?_) (hf:=fun h=>?_)<;>try exact prn)|refine Al ?_|refine Ao ?_|refine Ar ?_|refine Ak Ac J J J J J J J (ct) J J ?_|refine Ak Ac J J J J J J J (cp) J J ?_)
 all_goals try(exfalso;simp_all;done)
 all_goals exact Au J (Sub.of_eq J)
theorem Aab {p:Part} (g:GP p) (n:Int) (h1:p.start≤n) (h2:n≤p.fin):Ct Tryz.prog 145 [.agg (Aj (A5 p)),.agg (Aj (A4 (eC n)))] [] (.tuple [.agg (Aj (A5 (LW p n))),.t (.bool true)]) []:=by
 have cp:=UZ p n h1 h2 (by have:=g.rows;omega)
 have ek:(eC n).kind=2:=rfl
 refine ct0 Ac Tryz.func145 J false J J ?_
 repeat'(first|refine An Ac J J J J J ?_|refine Ae Ac J J J ?_|refine Ag ?_|refine Ah ?_|refine Ai Ac J J ?_|(refine Af J (ht:=fun h=>?_) (hf:=fun h=>?_)<;>try exact prn)|refine Al ?_|refine Ao ?_|refine Ar ?_|refine Ak Ac J J J J J J J (cp) J J ?_)
 all_goals try(exfalso;simp_all;done)
 all_goals exact Au J (Sub.of_eq J)
def I9 (p:Part) (l:List Batch):Part:={p with fin:=p.fin+CN l,rows:=p.rows++BN l p.fin}
theorem PA (p:Part):I9 p []=p:=by simp[I9,CN,BN]
theorem Za (p:Part) (l:List Batch) (b:Batch):I9 p (l++[b])={I9 p l with fin:=(I9 p l).fin+b.recs.length,rows:=(I9 p l).rows++BS b (I9 p l).fin}:=by
 simp only[I9,Gd,Ic,List.append_assoc,Int.natCast_add,Int.add_assoc]
theorem Aaa {p:Part} (g:GP p) (k:Nat) (o:Opn) (yes:Bool) (hk:p.opens[k]?=some o):Ct Tryz.prog 145 [.agg (Aj (A5 p)),.agg (Aj (A4 (eM o.pid o.epoch yes)))] [] (.tuple [.agg (Aj (A5 (Eb 0 p k o yes))),.t (.bool true)]) []:=by
 have b0:=g.ok.b0
 have b1:=g.ok.b1
 have gf:=g.fin
 have gr:=g.rows
 have co:=JD p o.pid (by have:=g.opens;omega)
 obtain⟨e1,e2⟩:=Al3 g.ok.osrt hk
 rw[e1,e2]at co
 have ca:=YU p o.pid g.ok.osrt g.opens o k hk J
 have hcp:=(g.ok.ook o (List.mem_of_getElem? hk)).1
 have hbl:=Cc hcp
 have hbm: ∀b∈o.batches,A1 b=true:=fun b hb=>(C8 hcp b hb).1
 have hlb:(o.batches.map Ap).length=o.batches.length:=List.length_map ..
 have ek:(eM o.pid o.epoch yes).kind=1:=rfl
 have cc:=KC p.prods o.pid g.ok.may
 have ee:(eM o.pid o.epoch yes).b.epoch=o.epoch:=rfl
 generalize hEr:p.opens.eraseIdx k=er at ca
 have hend:Eb 0 p k o yes={I9 {p with opens:=er} (if yes=true then o.batches else[])with fin:=(I9 {p with opens:=er} (if yes=true then o.batches else[])).fin+1,prods:=Cr p.prods o.pid}:=by
  cases yes<;>simp[Eb,MB,I9,hEr,CN,BN]
 rw[hend]
 have hkey: ∀l:List Batch,(∀b∈l,A1 b=true)→l.length≤8→(I9 {p with opens:=er} l).fin≤1000032∧0≤(I9 {p with opens:=er} l).fin∧(I9 {p with opens:=er} l).rows.length≤100032:=fun l hm hl=>by
  have:=Ez hm
  simp only[I9,List.length_append,GU]
  omega
 refine ct0 Ac Tryz.func145 J false J J ?_
 repeat'(first|refine An Ac J J J J J ?_|refine Ae Ac J J J ?_|refine Ag ?_|refine Ah ?_|refine Ai Ac J J ?_|(refine AP J J J J J (ht:=fun h=>?_) (hf:=fun h=>?_)<;>try exact prn)|(refine Af J (ht:=fun h=>?_) (hf:=fun h=>?_)<;>try exact prn)|refine Al ?_|refine Ao ?_|refine A9 (id:=14) (m:=12) Ac Y J J J J ?_|refine AA J J J J ?_|(refine Fi J J J J J (ht:=fun h=>?_) (hf:=fun h=>?_)<;>try exact prn)|refine Bz J J J J J J J (A2 Aa) J ?_|refine Ak Ac J J J J J J J (co) J J ?_|refine Ak Ac J J J J J J J (ca) J J ?_)
 all_goals try(exfalso;omega)
 have ey:(eM o.pid o.epoch true).yes=true:=rfl
 have en: ¬(eM o.pid o.epoch false).yes=true:=by simp[eM]
 refine AM (ι:=Nat) (fun i=>i≤o.batches.length∧(yes=false→i=0)) (fun i=>[(2,.ref 4 0),(3,.ref 6 0),(4,.ref 8 0),(11,.t (.slice .any 5 (o.batches.map Ap))),(12,.t (.int .i64 i))]) (fun i=>[(8,.cells (Aj F8.zero)),(6,.cells (Aj (A4 (eM o.pid o.epoch yes)))),(4,.cells (Aj (A5 (I9 {p with opens:=er} (o.batches.take i)))))]) (fun i=>o.batches.length-i) 0 Z ?_ ?_
 ·rw[List.take_zero,PA]
  exact AR [] (Ad J J (Ad J J (Ad J J (Ad J J (Ad J J Aq))))) J
 rintro i ⟨hi,hy⟩
 by_cases hlt:i<o.batches.length
 ·have hr:o.batches[i]?=some o.batches[i]:=List.getElem?_eq_getElem hlt
  have hmb:=hbm o.batches[i] (List.getElem_mem hlt)
  generalize o.batches[i]=b at hr hmb
  obtain⟨k1,k2,k3⟩:=hkey (o.batches.take i) (fun b hb=>hbm b (List.mem_of_mem_take hb)) (by rw[List.length_take];omega)
  have ca2:=Mg (I9 {p with opens:=er} (o.batches.take i)) b hmb k2 O O
  rw[←Za,←AL hr]at ca2
  cases yes with
  |true=>
   repeat'(first|refine An Ac J J J J J ?_|refine Ae Ac J J J ?_|refine Ag ?_|refine Ah ?_|refine Ai Ac J J ?_|(refine AZ J J J J J (ht:=fun h=>?_) (hf:=fun h=>?_)<;>try exact prn)|(refine Af J (ht:=fun h=>?_) (hf:=fun h=>?_)<;>try exact prn)|refine Al ?_|refine Ao ?_|refine A9 (id:=21) (m:=5) Ac Y J J J J ?_|refine AA J J J J ?_|refine CY ?_|refine Bz J J J J J J J (A2 Aa) J ?_|refine Ak Ac J J J J J J J (ca2) J J ?_)
   all_goals try(exfalso;omega)
   all_goals refine AF (i+1) ⟨hlt,fun h=>by cases h⟩ O [] (Ad rfl rfl (Ad rfl rfl (Ad rfl rfl (Ad rfl rfl (Ad rfl (by rw[A0 O O];rfl) Aq))))) J
  |false=>
   have h0:=hy J
   subst h0
   rw[List.take_zero,PA]
   have hw:IntKind.i64.wrap (p.fin+1)=p.fin+1:=A0 O O
   simp only[Bool.false_eq_true,if_false]
   rw[PA]
   repeat'(first|refine An Ac J J J J J ?_|refine Ae Ac J J J ?_|refine Ag ?_|refine Ah ?_|refine Ai Ac J J ?_|(refine AZ J J J J J (ht:=fun h=>?_) (hf:=fun h=>?_)<;>try exact prn)|(refine Af J (ht:=fun h=>?_) (hf:=fun h=>?_)<;>try exact prn)|refine AB ?_|refine Ar ?_|refine Ak Ac J J J J J J J (cc) J J ?_)
   all_goals try(exfalso;omega)
   all_goals refine Au J (Sub.of_eq ?_)
   all_goals simp[A5,Aj,hw]
 ·have hin:i=o.batches.length:=by omega
  subst hin
  rw[List.take_length]
  have hyes:yes=true:=by
   cases yes with
   |true=>rfl
   |false=>have:=hy J;omega
  subst hyes
  simp only[if_true]
  obtain⟨k1,k2,k3⟩:=hkey o.batches hbm O
  have hpr:(I9 {p with opens:=er} o.batches).prods=p.prods:=rfl
  generalize I9 {p with opens:=er} o.batches=q at*
  have hw:IntKind.i64.wrap (q.fin+1)=q.fin+1:=A0 O O
  rw[←hpr]at cc
  repeat'(first|refine An Ac J J J J J ?_|refine Ae Ac J J J ?_|refine Ag ?_|refine Ah ?_|refine Ai Ac J J ?_|(refine AZ J J J J J (ht:=fun h=>?_) (hf:=fun h=>?_)<;>try exact prn)|(refine Af J (ht:=fun h=>?_) (hf:=fun h=>?_)<;>try exact prn)|refine AB ?_|refine Ar ?_|refine Ak Ac J J J J J J J (cc) J J ?_)
  all_goals try(exfalso;omega)
  all_goals refine Au J (Sub.of_eq ?_)
  all_goals simp[A5,Aj,hw,hpr]
end Go.Proofs.YtpdmaenhenfofaaGreatDoor
namespace Go.Proofs.YtpdmaenhenfofaaGreatDoor
open Go.Am
attribute [local irreducible] Decidable.decide
set_option maxRecDepth 100000
set_option maxHeartbeats 1000000
theorem Aac {p q:Part} {x:Entry} (h:N1 p x q) (g:GP p) (hm:B9 x=true) (hq:q.fin≤1048576):Ct Tryz.prog 88 [.agg (Aj (A5 p)),.agg (Aj (A4 x))] [] (.tuple [.agg (Aj (A5 q)),.t (.int .i64 0)]) []:=by
 have hsm:x.b.recs.length≤1000000∧x.prod.seen.length≤1000000:=by
  cases h with
  |P b hb=>have:=AU hb;exact⟨by show b.recs.length≤_;omega,by show(0:Nat)≤_;omega⟩
  |T b hb=>have:=AU hb;exact⟨by show b.recs.length≤_;omega,by show(0:Nat)≤_;omega⟩
  |M k o yes=>exact⟨by show(0:Nat)≤_;omega,by show(0:Nat)≤_;omega⟩
  |C n=>exact⟨by show(0:Nat)≤_;omega,by show(0:Nat)≤_;omega⟩
 have cm:=Gf x hsm.1 hsm.2
 rw[hm]at cm
 have cn:Ct Tryz.prog 145 [.agg (Aj (A5 p)),.agg (Aj (A4 x))] [] (.tuple [.agg (Aj (A5 q)),.t (.bool true)]) []:=by
  cases h with
  |P b hb hc hi ht hno=>exact ZZ g b hb hc hi ht hno
  |T b hb hc hi ht hr=>exact ZY g b hb hc hi ht hr
  |M k o yes hk=>exact Aaa g k o yes hk
  |C n h1 h2=>exact Aab g n h1 h2
 refine ct0 Ac Tryz.func88 J false J J ?_
 repeat'(first|refine An Ac J J J J J ?_|refine Ae Ac J J J ?_|refine Ag ?_|refine Ah ?_|refine Ai Ac J J ?_|(refine AP J J J J J (ht:=fun h=>?_) (hf:=fun h=>?_)<;>try exact prn)|(refine Af J (ht:=fun h=>?_) (hf:=fun h=>?_)<;>try exact prn)|refine Ao ?_|refine Ar ?_|refine Ak Ac J J J J J J J (cm) J J ?_|refine Ak Ac J J J J J J J (cn) J J ?_)
 all_goals try(exfalso;omega)
 all_goals exact Au J (Sub.of_eq J)
inductive F1:Part→List Entry→Part→Prop
 |nil (p:Part):F1 p [] p
 |cons {p q r:Part} {x:Entry} {l:List Entry} (g:GP p) (h:N1 p x q) (hm:B9 x=true) (hq:q.fin≤1048576) (t:F1 q l r):F1 p (x::l) r
theorem F1.snoc {p q r:Part} {x:Entry} {l:List Entry} (t:F1 p l q) (g:GP q) (h:N1 q x r) (hm:B9 x=true) (hq:r.fin≤1048576):F1 p (l++[x]) r:=by
 induction t with
 |nil p=>exact .cons g h hm hq (.nil _)
 |cons g1 h1 hm1 hq1 _ ih=>exact .cons g1 h1 hm1 hq1 (ih g h)
theorem YB (l:List Entry) (p:Part) (h:F1 Cq l p) (hl:l.length≤1000000):Ct Tryz.prog 49 [.t (.slice .any 18 (l.map A4))] [] (.tuple [.agg (Aj (A5 p)),.t (.int .i64 0)]) []:=by
 have hlm:(l.map A4).length=l.length:=List.length_map ..
 refine ct0 Ac Tryz.func49 J false J J ?_
 repeat'(first|refine An Ac J J J J J ?_|refine Ae Ac J J J ?_|refine Ag ?_|refine Ah ?_|refine Ai Ac J J ?_|refine Al ?_)
 refine Tr.weakC (cs':=Aj (A5 Cq)) 8 J ⟨Sub.refl _,Sub.refl _,A6,A6,A6,trivial⟩ ?_
 refine AM (ι:=Nat×Part) (fun x=>x.1≤l.length∧F1 x.2 (l.drop x.1) p) (fun x=>[(0,.t (.slice .any 18 (l.map A4))),(2,.ref 4 0),(4,.ref 8 0),(5,.t (.int .i64 x.1))]) (fun x=>[(8,.cells (Aj (A5 x.2))),(4,.cells (Aj F8.zero))]) (fun x=>l.length-x.1) (0,Cq) ⟨by simp,h⟩ ?_ ?_
 ·exact AR [] (Ad J J (Ad J J (Ad J J (Ad J J Aq)))) J
 rintro⟨i,a⟩ ⟨hi,hF⟩
 simp only at hi hF
 by_cases hlt:i<l.length
 ·have hr:l[i]?=some l[i]:=List.getElem?_eq_getElem hlt
  generalize l[i]=x at hr
  rw[BE hr]at hF
  cases hF with
  |cons g hn hm hq t=>
   rename_i q
   have cn:=Aac hn g hm hq
   repeat'(first|refine An Ac J J J J J ?_|refine Ae Ac J J J ?_|refine Ag ?_|refine Ah ?_|refine Ai Ac J J ?_|(refine Af J (ht:=fun h=>?_) (hf:=fun h=>?_)<;>try exact prn)|refine Al ?_|refine Ao ?_|refine AA J J J J ?_|refine CY ?_|refine Bz J J J J J J J (A2 Aa) J ?_|refine J4 Ac 10 9 (id:=5) (m:=11) (x0:=.agg (Aj (A5 q))) (ys:=Aj (A5 q)) Y J J J J J J J J J J Y Y J J J J J Y ?_ J|refine⟨J,J,?_⟩|refine AO J J J J J (cn) J J ?_)
   all_goals try(exfalso;omega)
   all_goals refine AF (i+1,q) ⟨hlt,t⟩ (by simp;omega) [6] (Ad J J (Ad J J (Ad J J (Ad J (by rw[A0 O O];rfl) Aq)))) J
 ·have hin:i=l.length:=by omega
  subst hin
  rw[List.drop_length]at hF
  cases hF
  repeat'(first|refine An Ac J J J J J ?_|refine Ae Ac J J J ?_|refine Ag ?_|refine Ah ?_|refine Ai Ac J J ?_|(refine Af J (ht:=fun h=>?_) (hf:=fun h=>?_)<;>try exact prn)|refine AB ?_|refine Ar ?_)
  all_goals exact Au J (Sub.of_eq J)
end Go.Proofs.YtpdmaenhenfofaaGreatDoor
