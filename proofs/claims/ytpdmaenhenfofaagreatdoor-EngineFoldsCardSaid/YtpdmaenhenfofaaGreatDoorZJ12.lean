/- Contracts and laws, joined: Qu, Qv, Qw, Qx, Qy. No condition beside those that each theorem names. -/
import Derived.Test.YtpdmaenhenfofaaGreatDoorZM10
import Derived.Test.YtpdmaenhenfofaaGreatDoorZM11
import Derived.Test.YtpdmaenhenfofaaGreatDoorZJ11
import Derived.Test.YtpdmaenhenfofaaGreatDoorZJ10
import Derived.Test.YtpdmaenhenfofaaGreatDoorZIm
set_option linter.unusedVariables false
set_option linter.unusedSimpArgs false
namespace Go.Proofs.YtpdmaenhenfofaaGreatDoor
open Go.Am
attribute [local irreducible] Decidable.decide
set_option maxRecDepth 100000
set_option maxHeartbeats 1000000
def VX (o:Opn) (blk N:Nat):List T:=[.int .i64 o.pid,.int .i64 o.epoch,.slice (.phys blk N) 5 (o.batches.map Ap)]
theorem TF (o:Opn) (hs:HY o) (hne:o.batches≠[]):CtF Tryz.prog 100 [.agg (Aj (Aw o))] [] (fun _:Nat×Nat=>True) (fun τ=>.agg (Aj (VX o τ.1 τ.2))) (fun τ=>[(60,.rights [(τ.1,τ.2,o.batches.length*5)])]):=by
 have hlm:(o.batches.map Ap).length=o.batches.length:=List.length_map ..
 have hs1:=hs.1
 refine ctF Ac Tryz.func100 J J ?_
 repeat'(first|refine An Ac J J J J J ?_|refine Ae Ac J J J ?_|refine Ag ?_|refine Ah ?_|refine Ai Ac J J ?_|refine Al ?_)
 refine Tr.nilCell 2 2 40 5 J J J ?_
 refine AM (ι:=Nat) (fun i=>i≤o.batches.length) (fun i=>[(1,.ref 2 0),(2,.ref 4 0),(9,.t (.slice .any 5 (o.batches.map Ap))),(10,.t (.int .i64 ((o.batches.map Ap).length:Int))),(11,.t (.int .i64 i))]) (fun i=>[(80,.grow 5 ((o.batches.take i).map Ap)),(4,.cells (Aj WR.zero)),(2,.cells [.t (.int .i64 o.pid),.t (.int .i64 o.epoch),.row 80 5 0 ((o.batches.take i).map Ap).length])]) (fun i=>o.batches.length-i) 0 Z ?_ ?_
 ·exact AR [] (Ad J J (Ad J J (Ad J J (Ad J J (Ad J J Aq))))) J
 rintro i hi
 by_cases hlt:i<o.batches.length
 ·have hr:o.batches[i]?=some o.batches[i]:=List.getElem?_eq_getElem hlt
  have hsr:=hs.2 o.batches[i] (List.getElem_mem hlt)
  generalize o.batches[i]=r at hr hsr
  repeat'(first|refine An Ac J J J J J ?_|refine Ae Ac J J J ?_|refine Ag ?_|refine Ah ?_|refine Ai Ac J J ?_|(refine Af J (ht:=fun h=>?_) (hf:=fun h=>?_)<;>try exact prn)|refine Al ?_|refine Ao ?_|refine AD Ac J J J J J J J (A2 Aa) J ?_|refine AN Ac J J J J J J J J J J J J J J (by simp[AW];omega) ?_|refine A9 (id:=6) (m:=5) Ac Y J J J J ?_|refine AA J J J J ?_|refine AO J J J J J (GX r hsr) J J ?_)
  refine AF (i+1) hlt O [5] (Ad J J (Ad J J (Ad J J (Ad J J (Ad J (by rw[A0 O O];rfl) Aq))))) ?_
  have ht:(o.batches.take (i+1)).map Ap=(o.batches.take i).map Ap++[Ap r]:=by rw[AL hr];simp
  rw[ht];rfl
 ·have hte:o.batches.take i=o.batches:=List.take_of_length_le O
  rw[hte]
  refine Tr.newRights 30 J ?_
  have hne':o.batches.map Ap≠[]:=by simpa using hne
  repeat'(first|refine Ah7 23 80 60 (y:=.agg [.t (.int .i64 o.pid),.t (.int .i64 o.epoch),.row 80 5 0 (o.batches.map Ap).length]) (fun blk N=>.agg (Aj (VX o blk N))) (fun blk N=>[(blk,N,o.batches.length*5)]) J J J hne' J (fun blk N=>Ah0 ⟨Al0,Al0,Ahz J,trivial⟩) (fun blk N _=>⟨by simp,fun q hq=>.inl (by rw[hlm];simpa using hq)⟩) (fun blk N _=>?_)|refine An Ac J J J J J ?_|refine Ae Ac J J J ?_|refine Ag ?_|refine Ah ?_|refine Ai Ac J J ?_|(refine Af J (ht:=fun h=>?_) (hf:=fun h=>?_)<;>try exact prn)|refine AB ?_)
  refine Ar ?_
  exact Zt (_,_) trivial [2,1] J J J (Sub.refl _)
def tgO (l:List Opn) (k:Nat) (τ:Nat×Nat) (o:Opn) (i:Nat):List (List T):=((l.take i).map Aw).set k (VX o τ.1 τ.2)
theorem Ahu {l:List Opn} {k:Nat} {o:Opn} (h:l[k]?=some o) (τ:Nat×Nat):tgO l k τ o (k+1)=(l.take k).map Aw++[VX o τ.1 τ.2]:=by
 have hlt:=(List.getElem?_eq_some_iff.1 h).1
 have hl:((l.take k).map Aw).length=k:=by simp;omega
 unfold tgO
 rw[AL h,List.map_append,List.set_append_right _ _ O,hl]
 simp
theorem Z2 {l:List Opn} {k i:Nat} {o r:Opn} (hr:l[i]?=some r) (hk:k<i) (τ:Nat×Nat):tgO l k τ o (i+1)=tgO l k τ o i++[Aw r]:=by
 have hlt:=(List.getElem?_eq_some_iff.1 hr).1
 have hl:((l.take i).map Aw).length=i:=by simp;omega
 unfold tgO
 rw[AL hr,List.map_append,List.set_append_left _ _ O]
 simp
theorem Nu {l:List Opn} {k i:Nat} {o:Opn} {τ:Nat×Nat} (hi:i≤l.length):(tgO l k τ o i).length=i:=by simp[tgO];omega
theorem Adl (p:Part) (hs:Bt p) (k:Nat) (o:Opn) (hk:p.opens[k]?=some o) (hne:o.batches≠[]):CtF Tryz.prog 53 [.agg (Aj (A5 p))] [] (fun _:Nat×Nat=>True) (fun _=>.agg [.t (.int .i64 p.start),.t (.int .i64 p.fin),.row 28 5 0 p.rows.length,.row 80 3 0 p.opens.length,.row 90 4 0 p.prods.length]) (fun τ=>[(90,.grow 4 (p.prods.map Av)),(80,.grow 3 (tgO p.opens k τ o p.opens.length)),(28,.grow 5 (p.rows.map AC)),(52,.rights [(τ.1,τ.2,o.batches.length*5)])]):=by
 obtain⟨h1,h2,h3,h4,h5⟩:=hs
 have hlo:(p.opens.map Aw).length=p.opens.length:=List.length_map ..
 have hlp:(p.prods.map Av).length=p.prods.length:=List.length_map ..
 have hklt:=(List.getElem?_eq_some_iff.1 hk).1
 have hso:=h3 o (List.mem_of_getElem? hk)
 refine ctF Ac Tryz.func53 J J ?_
 repeat'(first|refine An Ac J J J J J ?_|refine Ae Ac J J J ?_|refine Ag ?_|refine Ah ?_|refine Ai Ac J J ?_|refine Al ?_|refine A9 (id:=1) (m:=9) Ac Y J J J J ?_|refine AA J J J J ?_|refine QM J J J J J (LX p.rows h1) J J J J ?_)
 refine Tr.nilCell 6 4 45 4 J J J ?_
 refine Tr.nilCell 6 3 40 3 J J J ?_
 refine AM (ι:=Nat⊕(Nat×(Nat×Nat))) (fun q=>match q with
   |.inl i=>i≤k
   |.inr (i,_)=>k<i∧i≤p.opens.length)
  (fun q=>match q with
   |.inl i=>[(1,.ref 2 0),(2,.ref 4 0),(3,.ref 6 0),(17,.t (.slice .any 3 (p.opens.map Aw))),(18,.t (.int .i64 ((p.opens.map Aw).length:Int))),(19,.t (.int .i64 i))]
   |.inr (i,_)=>[(1,.ref 2 0),(2,.ref 4 0),(3,.ref 6 0),(17,.t (.slice .any 3 (p.opens.map Aw))),(18,.t (.int .i64 ((p.opens.map Aw).length:Int))),(19,.t (.int .i64 i))])
  (fun q=>match q with
   |.inl i=>[(80,.grow 3 ((p.opens.take i).map Aw)),(90,.grow 4 []),(6,.cells [.t (.int .i64 p.start),.t (.int .i64 p.fin),.row 28 5 0 (p.rows.map AC).length,.row 80 3 0 ((p.opens.take i).map Aw).length,.row 90 4 0 0]),(28,.grow 5 (p.rows.map AC)),(4,.cells (Aj F8.zero)),(2,.cells (Aj (A5 p)))]
   |.inr (i,τ)=>[(80,.grow 3 (tgO p.opens k τ o i)),(90,.grow 4 []),(6,.cells [.t (.int .i64 p.start),.t (.int .i64 p.fin),.row 28 5 0 (p.rows.map AC).length,.row 80 3 0 (tgO p.opens k τ o i).length,.row 90 4 0 0]),(28,.grow 5 (p.rows.map AC)),(4,.cells (Aj F8.zero)),(2,.cells (Aj (A5 p))),(52,.rights [(τ.1,τ.2,o.batches.length*5)])])
  (fun q=>match q with
   |.inl i=>p.opens.length-i
   |.inr (i,_)=>p.opens.length-i) (.inl 0) Z ?_ ?_
 ·exact AR [] (Ad J J (Ad J J (Ad J J (Ad J J (Ad J J (Ad J J Aq)))))) J
 rintro(i|⟨i,τ⟩) hI
 ·simp only at hI
  have hlt:i<p.opens.length:=by omega
  by_cases hik:i<k
  ·have hr:p.opens[i]?=some p.opens[i]:=List.getElem?_eq_getElem hlt
   have hsr:=h3 p.opens[i] (List.getElem_mem hlt)
   generalize p.opens[i]=r at hr hsr
   repeat'(first|refine An Ac J J J J J ?_|refine Ae Ac J J J ?_|refine Ag ?_|refine Ah ?_|refine Ai Ac J J ?_|(refine Af J (ht:=fun h=>?_) (hf:=fun h=>?_)<;>try exact prn)|refine Al ?_|refine Ao ?_|refine AD Ac J J J J J J J (A2 Aa) J ?_|refine AN Ac J J J J J J J J J J J J J J (by simp[AW];omega) ?_|refine A9 (id:=5) (m:=5) Ac Y J J J J ?_|refine AA J J J J ?_|refine AO J J J J J (Kz r hsr) J J ?_)
   refine⟨.inl (i+1),hik,(by show p.opens.length-(i+1)<p.opens.length-i;omega),[5],(Ad J J (Ad J J (Ad J J (Ad J J (Ad J J (Ad J (by rw[A0 O O];rfl) Aq)))))),?_⟩
   have ht:(p.opens.take (i+1)).map Aw=(p.opens.take i).map Aw++[Aw r]:=by rw[AL hr];simp
   simp only[ht];rfl
  ·obtain rfl:i=k:=by omega
   repeat'(first|refine An Ac J J J J J ?_|refine Ae Ac J J J ?_|refine Ag ?_|refine Ah ?_|refine Ai Ac J J ?_|(refine Af J (ht:=fun h=>?_) (hf:=fun h=>?_)<;>try exact prn)|refine Al ?_|refine Ao ?_|refine AD Ac J J J J J J J (A2 Aa) J ?_)
   refine Q9 (ι:=Nat×Nat) (fun _=>True) (fun τ=>[(1,.ref 2 0),(2,.ref 4 0),(3,.ref 6 0),(17,.t (.slice .any 3 (p.opens.map Aw))),(18,.t (.int .i64 ((p.opens.map Aw).length:Int))),(19,.t (.int .i64 i))])
    (fun τ=>[(80,.grow 3 (tgO p.opens i τ o (i+1))),(52,.rights [(τ.1,τ.2,o.batches.length*5)]),(90,.grow 4 []),(6,.cells [.t (.int .i64 p.start),.t (.int .i64 p.fin),.row 28 5 0 (p.rows.map AC).length,.row 80 3 0 (tgO p.opens i τ o (i+1)).length,.row 90 4 0 0]),(28,.grow 5 (p.rows.map AC)),(4,.cells (Aj F8.zero)),(2,.cells (Aj (A5 p)))]) (fun _ _ h=>h) ?_ ?_
   ·refine Zs Ac J J ?_
    repeat'(first|refine An Ac J J J J J ?_|refine Ae Ac J J J ?_|refine Ag ?_|refine AN Ac J J J J J J J J J J J J J J (by simp[AW];omega) ?_|refine P8 J ?_|refine P7 J J ?_|refine P6 J J J ?_ ?_|refine WM Ac [] [(60,52)] J J J J J (TF o hso hne) J (fun _ _=>rfl) (fun _ _=>rfl) (fun _ _=>rfl) (fun τ _=>?_))
    all_goals(refine Mw τ trivial [5] (Ad J J (Ad J J (Ad J J (Ad J J (Ad J J (Ad J J Aq)))))) ?_;simp only[Ahu hk];rfl)
   ·rintro τ _
    refine Tr.swapS J ?_
    refine Tr.rotS J ?_
    repeat'(first|refine Ae Ac J J J ?_|refine Ag ?_|refine Ai Ac J J ?_)
    refine⟨.inr (i+1,τ),⟨by omega,by omega⟩,(by show p.opens.length-(i+1)<p.opens.length-i;omega),[],(Ad J J (Ad J J (Ad J J (Ad J J (Ad J J (Ad J (by rw[A0 O O];rfl) Aq)))))),J⟩
 ·obtain⟨hki,hin⟩:=hI
  by_cases hlt:i<p.opens.length
  ·have hr:p.opens[i]?=some p.opens[i]:=List.getElem?_eq_getElem hlt
   have hsr:=h3 p.opens[i] (List.getElem_mem hlt)
   generalize p.opens[i]=r at hr hsr
   have hgl:(tgO p.opens k τ o i).length=i:=Nu hin
   repeat'(first|refine An Ac J J J J J ?_|refine Ae Ac J J J ?_|refine Ag ?_|refine Ah ?_|refine Ai Ac J J ?_|(refine Af J (ht:=fun h=>?_) (hf:=fun h=>?_)<;>try exact prn)|refine Al ?_|refine Ao ?_|refine AD Ac J J J J J J J (A2 Aa) J ?_|refine AN Ac J J J J J J J J J J J J J J (by simp[AW];omega) ?_|refine A9 (id:=5) (m:=5) Ac Y J J J J ?_|refine AA J J J J ?_|refine AO J J J J J (Kz r hsr) J J ?_)
   refine⟨.inr (i+1,τ),⟨by omega,by omega⟩,(by show p.opens.length-(i+1)<p.opens.length-i;omega),[5],(Ad J J (Ad J J (Ad J J (Ad J J (Ad J J (Ad J (by rw[A0 O O];rfl) Aq)))))),?_⟩
   simp only[Z2 hr hki];rfl
  ·obtain rfl:i=p.opens.length:=by omega
   have hgl:(tgO p.opens k τ o p.opens.length).length=p.opens.length:=Nu (Nat.le_refl _)
   repeat'(first|refine Ae Ac J J J ?_|refine Ag ?_|refine Ah ?_|refine Ai Ac J J ?_|(refine Af J (ht:=fun h=>?_) (hf:=fun h=>?_)<;>try exact prn)|refine Al ?_|refine AB ?_)
   refine Tr.swapS J ?_
   refine AM (ι:=Nat) (fun i=>i≤p.prods.length) (fun i=>[(2,.ref 4 0),(3,.ref 6 0),(32,.t (.slice .any 4 (p.prods.map Av))),(33,.t (.int .i64 ((p.prods.map Av).length:Int))),(34,.t (.int .i64 i))])
    (fun i=>[(90,.grow 4 ((p.prods.take i).map Av)),(80,.grow 3 (tgO p.opens k τ o p.opens.length)),(6,.cells [.t (.int .i64 p.start),.t (.int .i64 p.fin),.row 28 5 0 (p.rows.map AC).length,.row 80 3 0 (tgO p.opens k τ o p.opens.length).length,.row 90 4 0 ((p.prods.take i).map Av).length]),(28,.grow 5 (p.rows.map AC)),(4,.cells (Aj F8.zero)),(2,.cells (Aj (A5 p))),(52,.rights [(τ.1,τ.2,o.batches.length*5)])]) (fun i=>p.prods.length-i) 0 Z ?_ ?_
   ·exact AR [] (Ad J J (Ad J J (Ad J J (Ad J J (Ad J J Aq))))) J
   rintro j hj
   by_cases hlj:j<p.prods.length
   ·have hr:p.prods[j]?=some p.prods[j]:=List.getElem?_eq_getElem hlj
    have hsr:=h5 p.prods[j] (List.getElem_mem hlj)
    generalize p.prods[j]=r at hr hsr
    repeat'(first|refine An Ac J J J J J ?_|refine Ae Ac J J J ?_|refine Ag ?_|refine Ah ?_|refine Ai Ac J J ?_|(refine Af J (ht:=fun h=>?_) (hf:=fun h=>?_)<;>try exact prn)|refine Al ?_|refine Ao ?_|refine AD Ac J J J J J J J (A2 Aa) J ?_|refine AN Ac J J J J J J J J J J J J J J (by simp[AW];omega) ?_|refine Ak Ac J J J J J J J (Gl r.seen hsr) J J ?_)
    refine AF (j+1) hlj O [7] (Ad J J (Ad J J (Ad J J (Ad J J (Ad J (by rw[A0 O O];rfl) Aq))))) ?_
    have ht:(p.prods.take (j+1)).map Av=(p.prods.take j).map Av++[Av r]:=by rw[AL hr];simp
    rw[ht];rfl
   ·repeat'(first|refine An Ac J J J J J ?_|refine Ae Ac J J J ?_|refine Ag ?_|refine Ah ?_|refine Ai Ac J J ?_|(refine Af J (ht:=fun h=>?_) (hf:=fun h=>?_)<;>try exact prn)|refine AB ?_)
    have htp:p.prods.take j=p.prods:=List.take_of_length_le O
    refine Ar ?_
    refine Zt τ trivial [3,2,1] J J ?_ (Sub.of_eq ?_)
    ·rw[htp];rfl
    ·rw[htp,List.length_map,hgl,hlp];rfl
end Go.Proofs.YtpdmaenhenfofaaGreatDoor
namespace Go.Proofs.YtpdmaenhenfofaaGreatDoor
open Go.Am
attribute [local irreducible] Decidable.decide
set_option maxRecDepth 100000
set_option maxHeartbeats 1000000
theorem Y4 (es:List (List T)) (x:List T) (hlim:es.length≤1000000):Ct Tryz.prog 127 [.row 1 3 0 es.length,.t (.int .i64 (es.length:Int)),.t (.slice .full 3 [x])] [(1,.grow 3 es)] (.row 1 3 0 (es++[x]).length) [(1,.grow 3 (es++[x]))]:=by
 refine ct1 Ac Tryz.func127 J J ?_
 repeat'(first|refine Ae Ac J J J ?_|refine Ag ?_|refine Ah ?_|refine Ai Ac J J ?_|(refine Af J (ht:=fun h=>?_) (hf:=fun h=>?_)<;>try exact prn)|refine Ao ?_|refine AN Ac J J J J J J J J J J J J J J (by simp[AW];omega) ?_|refine SO Ac (l:=es.length) (h:=es.length) J J J J J J FM (Do J J) (Nat.le_refl _) (Nat.le_refl _) J ?_)
 ·simp at h
 ·refine Ar ?_
  exact BR [] J J J (Sub.refl _)
theorem Uz {es:List (List T)} {σ:St} {x:T} (h:Am.look σ 1=some (.grow 3 es)):H5 σ [.row 1 3 0 es.length,.t x]=some [.t (.slice .any 3 es),.t x]:=by
 have t1:es.take es.length=es:=List.take_of_length_le (Nat.le_refl _)
 have t2:es.length.ble es.length=true:=by simp
 simp[H5,GY,h,t1,t2]
theorem Aa6 {α:Type} {l:List α} {i:Nat} {x:α} (h:i≤l.length):(Kc l i x)[i]?=some x:=by
 unfold Kc
 rw[List.getElem?_append_right (by rw[List.length_take];omega)]
 simp[List.length_take,Nat.min_eq_left h]
theorem Z3 {l:List Opn} (h:Srt Opn.pid l) {i:Nat} {r:Opn} (hr:l[i]?=some r) {k:Int} (hk:k<r.pid): ∀o∈l.drop i,k<o.pid:=fun o ho=>by
 have hd:Srt Opn.pid (l.drop i):=List.Pairwise.sublist (List.drop_sublist i l) h
 rw[BE hr]at ho hd
 rcases List.mem_cons.1 ho with rfl|ho
 ·exact hk
 ·have:=(List.pairwise_cons.1 hd).1 o ho;omega
theorem Aa3 {l:List Opn} {i:Nat} {x:Opn} (h1: ∀o∈l.take i,o.pid<x.pid) (h2: ∀o∈l.drop i,x.pid<o.pid):(Et Opn.pid x l).map Aw=(l.take i).map Aw++Aw x::(l.drop i).map Aw:=by
 obtain⟨q1,q2⟩:=Gj (f:=Opn.pid) h1 (fun o ho=>Int.le_of_lt (h2 o ho))
 rw[List.take_append_drop]at q1 q2
 have q3:(l.drop i).filter (fun y=>decide (x.pid<y.pid))=l.drop i:=List.filter_eq_self.2 fun o ho=>by simpa using h2 o ho
 rw[q3]at q2
 unfold Et
 rw[q1,q2]
 simp
theorem Aa4 {α:Type} {l:List α} {i:Nat} {x y:α} (h:i≤l.length):(Kc l i x).set (0+i) y=l.take i++y::l.drop i:=by
 unfold Kc
 have hl:(l.take i).length=i:=by rw[List.length_take];omega
 rw[Nat.zero_add,List.set_append_right _ _ O,hl]
 simp
abbrev On (b:Batch):List T:=[.int .i64 b.pid,.int .i64 b.epoch,.slice .nil 0 []]
theorem Aaw (l:List Opn) (b:Batch) (hl:l.length≤1000000) (hsrt:Srt Opn.pid l) (hno: ∀o∈l,o.pid≠b.pid) (hb:b.recs.length≤1000000):
  Ct Tryz.prog 72 [.row 1 3 0 (l.map Aw).length,.agg (Aj (Ap b))] [(1,.grow 3 (l.map Aw))] (.row 1 3 0 (l.length+1)) [(1,.grow 3 ((Et Opn.pid ⟨b.pid,b.epoch,[b]⟩ l).map Aw))]:=by
 have hlm:(l.map Aw).length=l.length:=List.length_map ..
 have cf:=HG l b.pid hl
 have hany:l.any (fun o=>decide (o.pid=b.pid))=false:=by rw[List.any_eq_false];intro o ho;simpa using hno o ho
 rw[hany]at cf
 refine ct1 Ac Tryz.func72 J J ?_
 repeat'(first|refine Ae Ac J J J ?_|refine Ag ?_|refine Ah ?_|refine Ai Ac J J ?_|(refine Af J (ht:=fun h=>?_) (hf:=fun h=>?_)<;>try exact prn)|refine Al ?_|refine EA Ac J J J (Uz J) cf J J ?_)
 refine AM (ι:=Nat) (fun i=>i≤l.length∧ ∀o∈l.take i,o.pid<b.pid) (fun i=>[(0,.row 1 3 0 (l.map Aw).length),(3,.ref 6 0),(5,.t (.int .i64 i))]) (fun _=>[(6,.cells (Aj (Ap b))),(1,.grow 3 (l.map Aw))]) (fun i=>l.length-i) 0 Z ?_ ?_
 ·exact AR [] (Ad J J (Ad J J (Ad J J Aq))) J
 rintro i ⟨hi,hall⟩
 by_cases hlt:i<l.length
 ·have hr:l[i]?=some l[i]:=List.getElem?_eq_getElem hlt
  generalize l[i]=r at hr
  have hge:(l.map Aw)[0+i]?=some (Aw r):=by rw[Nat.zero_add];exact A2 hr
  repeat'(first|refine WN Ac J J J J J J J J ?_|refine Ae Ac J J J ?_|refine Ag ?_|refine Ah ?_|refine Ai Ac J J ?_|(refine AZ J J J J J (ht:=fun h=>?_) (hf:=fun h=>?_)<;>try exact prn)|(refine Af J (ht:=fun h=>?_) (hf:=fun h=>?_)<;>try exact prn)|refine Al ?_|refine Ao ?_|refine AB ?_|refine A9 (id:=4) (m:=12) Ac Y J J J J ?_|refine AA J J J J ?_|(refine EQ J J J J J (ht:=fun h=>?_) (hf:=fun h=>?_)<;>try exact prn)|refine NV (kc:=i) J J J J J J J J (by rw[hlm];exact hlt) J ?_|refine Sa J J J J J J hge J J J ?_|refine A7 Ac [(1,1),(78,3)] [(1,1),(3,78)] J J J J J (Y2 (l.map Aw) i _ (by rw[hlm];exact hlt) (by rw[hlm];exact hl)) J J J J J ?_)
  ·refine AF (i+1) ⟨by omega,?_⟩ O [] (Ad J J (Ad J J (Ad J (by rw[A0 O O];rfl) Aq))) J
   intro o ho
   rw[AL hr]at ho
   rcases List.mem_append.1 ho with ho|ho
   ·exact hall o ho
   ·simp at ho;subst ho;assumption
  ·have hil:(Kc (l.map Aw) i (On b))[0+i]?=some (On b):=by
    rw[Nat.zero_add];exact Aa6 (by rw[hlm];omega)
   refine Tr.weak (E:=[(0,.row 1 3 0 ((l.map Aw).length+1)),(3,.ref 6 0),(5,.t (.int .i64 i))]) (S:=[(1,.grow 3 (Kc (l.map Aw) i (On b))),(6,.cells (Aj (Ap b)))]) ?_ (AR [39] (Ad J J (Ad J J (Ad J J Aq))) J)
   generalize hes:Kc (l.map Aw) i (On b)=es at hil
   repeat'(first|refine Ae Ac J J J ?_|refine Ag ?_|refine Ah ?_|refine Ai Ac J J ?_|refine A9 (id:=7) (m:=10) Ac Y J J J J ?_|refine AA J J J J ?_|refine CY ?_|refine NV (kc:=i) J J J J J J J J (by rw[hlm];omega) J ?_|refine Sa J J J J J J hil J J J ?_|refine EL Ac (kc:=i) J J J J J J J J (by rw[hlm];omega) J ?_|refine NC Ac (ts:=[.slice .any 5 [Ap b]]) J J J J J J J J J J hil J J ?_)
   refine Ar ?_
   refine BR [3] J J ?_ (Sub.of_eq (by rw[hlm];rfl))
   have hgt: ∀o∈l.drop i,b.pid<o.pid:=Z3 hsrt hr (by have:=hno r (List.mem_of_getElem? hr);omega)
   show[(1,Blk.grow 3 (es.set (0+i) (Aw ⟨b.pid,b.epoch,[b]⟩)))]=_
   rw[Aa3 hall hgt,←hes,Aa4 (by rw[hlm];omega),List.map_take,List.map_drop]
 ·have hil:i=l.length:=by omega
  subst hil
  have hge:(l.map Aw++[(On b)])[0+l.length]?=some (On b):=by
   rw[Nat.zero_add,List.getElem?_append_right (by rw[hlm];exact Nat.le_refl _)];simp
  have ci:=Y4 (l.map Aw) (On b) (by rw[hlm];exact hl)
  rw[show(((l.map Aw).length:Nat):Int)=(l.length:Int)by rw[hlm]]at ci
  repeat'(first|refine An Ac J J J J J ?_|refine Ae Ac J J J ?_|refine Ag ?_|refine Ah ?_|refine Ai Ac J J ?_|(refine AZ J J J J J (ht:=fun h=>?_) (hf:=fun h=>?_)<;>try exact prn)|(refine Af J (ht:=fun h=>?_) (hf:=fun h=>?_)<;>try exact prn)|refine AB ?_|refine A9 (id:=4) (m:=12) Ac Y J J J J ?_|refine AA J J J J ?_|(refine EQ J J J J J (ht:=fun h=>?_) (hf:=fun h=>?_)<;>try exact prn)|refine A7 Ac [(1,1)] [(1,1)] J J J J J ci J J J J J ?_)
  refine Tr.weak (E:=[(0,.row 1 3 0 (l.map Aw++[(On b)]).length),(3,.ref 6 0),(5,.t (.int .i64 l.length))]) (S:=[(1,.grow 3 (l.map Aw++[(On b)])),(6,.cells (Aj (Ap b)))]) ?_ (AR [] (Ad J J (Ad J J (Ad J J Aq))) J)
  have hel:(l.map Aw++[(On b)]).length=l.length+1:=by rw[List.length_append,hlm];rfl
  rw[hel]
  generalize hes:l.map Aw++[(On b)]=es at hge
  repeat'(first|refine Ae Ac J J J ?_|refine Ag ?_|refine Ah ?_|refine Ai Ac J J ?_|refine A9 (id:=7) (m:=10) Ac Y J J J J ?_|refine AA J J J J ?_|refine CY ?_|refine NV (kc:=l.length) J J J J J J J J O J ?_|refine Sa J J J J J J hge J J J ?_|refine EL Ac (kc:=l.length) J J J J J J J J O J ?_|refine NC Ac (ts:=[.slice .any 5 [Ap b]]) J J J J J J J J J J hge J J ?_)
  refine Ar ?_
  refine BR [3] J J ?_ (Sub.refl _)
  show[(1,Blk.grow 3 (es.set (0+l.length) (Aw ⟨b.pid,b.epoch,[b]⟩)))]=_
  rw[List.take_of_length_le (Nat.le_refl _)]at hall
  rw[Aa3 (i:=l.length) (x:=⟨b.pid,b.epoch,[b]⟩) (by rw[List.take_of_length_le (Nat.le_refl _)];exact hall) Z,←hes,List.take_of_length_le (Nat.le_refl _),List.drop_of_length_le (Nat.le_refl _),Nat.zero_add,List.set_append_right _ _ (by rw[hlm];exact Nat.le_refl _)]
  simp
end Go.Proofs.YtpdmaenhenfofaaGreatDoor
namespace Go.Proofs.YtpdmaenhenfofaaGreatDoor
open Go.Am
attribute [local irreducible] Decidable.decide
set_option maxRecDepth 100000
set_option maxHeartbeats 1000000
theorem ZV (o:Opn) (blk N:Nat):E6 (VX o blk N) (Aw o):=⟨AJ.refl _,AJ.refl _,AJ.any,trivial⟩
theorem WS {l:List Opn} {k:Nat} {o:Opn} (hk:l[k]?=some o) (τ:Nat×Nat):DK (tgO l k τ o l.length) (l.map Aw):=by
 unfold tgO
 rw[List.take_of_length_le (Nat.le_refl _)]
 exact PC (DK.refl _) (A2 hk) (ZV o τ.1 τ.2)
theorem Ac6 {l:List Opn} {k:Nat} {o:Opn} (hk:l[k]?=some o) (τ:Nat×Nat):(tgO l k τ o l.length)[k]?=some (VX o τ.1 τ.2):=by
 have hlt:=(List.getElem?_eq_some_iff.1 hk).1
 unfold tgO
 rw[List.getElem?_set_self (by simp;omega)]
theorem Nk: ∀{l l':List (List T)} {k:Nat} {x y:List T},DK l l'→E6 x y→DK (l.set k x) (l'.set k y)
 |[],[],_,_,_,_,_=>trivial
 |a::r,b::s,0,x,y,h,hx=>⟨hx,h.2⟩
 |a::r,b::s,k+1,x,y,h,hx=>⟨h.1,Nk h.2 hx⟩
 |[],_::_,_,_,_,h,_=>h.elim
 |_::_,[],_,_,_,h,_=>h.elim
theorem Aax (l:List Opn) (b:Batch) (k:Nat) (o:Opn) (τ:Nat×Nat) (hl:l.length≤1000000) (hk:l[k]?=some o) (hidx:Em (fun o=>decide (o.pid=b.pid)) l=(k:Int)) (hany:l.any (fun o=>decide (o.pid=b.pid))=true) (hne:o.batches≠[]) (ho:o.batches.length≤1000000):
  Ct Tryz.prog 72 [.row 1 3 0 (tgO l k τ o l.length).length,.agg (Aj (Ap b))] [(1,.grow 3 (tgO l k τ o l.length)),(3,.rights [(τ.1,τ.2,o.batches.length*5)])] (.row 1 3 0 l.length) [(1,.grow 3 ((l.set k {o with batches:=o.batches++[b]}).map Aw)),(3,.rights [])]:=by
 have hgl:(tgO l k τ o l.length).length=l.length:=Nu (Nat.le_refl _)
 have hlt:=(List.getElem?_eq_some_iff.1 hk).1
 have hlb:(o.batches.map Ap).length=o.batches.length:=List.length_map ..
 have hne':o.batches.map Ap≠[]:=by simpa using hne
 have cf:Ct Tryz.prog 54 [.t (.slice .any 3 (tgO l k τ o l.length)),.t (.int .i64 b.pid)] [] (.tuple [.t (.int .i64 (Em (fun o=>decide (o.pid=b.pid)) l)),.t (.bool (l.any (fun o=>decide (o.pid=b.pid))))]) []:=(HG l b.pid hl).args ⟨Hh (WS hk τ),Sub.refl _,trivial⟩
 rw[hany,hidx]at cf
 have hget:=Ac6 hk τ
 have hsub:=WS hk τ
 have hset: ∀y,(tgO l k τ o l.length).set (0+k) y=(l.map Aw).set k y:=fun y=>by unfold tgO;rw[List.take_of_length_le (Nat.le_refl _),Nat.zero_add,List.set_set]
 generalize hes:tgO l k τ o l.length=es at*
 have hge:es[0+k]?=some (VX o τ.1 τ.2):=by rw[Nat.zero_add];exact hget
 refine ct1 Ac Tryz.func72 J J ?_
 repeat'(first|refine Ae Ac J J J ?_|refine Ag ?_|refine Ah ?_|refine Ai Ac J J ?_|(refine Af J (ht:=fun h=>?_) (hf:=fun h=>?_)<;>try exact prn)|refine Ao ?_|refine EA Ac J J J (Uz J) cf J J ?_)
 refine Q9 (ι:=Nat×Nat) (fun _=>True) (fun _=>[(0,.row 1 3 0 es.length)]) (fun q=>[(6,.cells (Aj (Ap b))),(1,.grow 3 (es.set (0+k) [.int .i64 o.pid,.int .i64 o.epoch,.slice (.phys q.1 q.2) 5 (o.batches.map Ap++[Ap b])])),(3,.rights [])]) (fun _ _ h=>h) ?_ ?_
 ·refine Gp Ac [0,1,2,3] 9 Y J J (by rintro ch e s ⟨hx,_⟩;cases hx) ?_
  repeat'(first|refine An Ac J J J J J ?_|refine Ae Ac J J J ?_|refine Ag ?_|refine P8 J ?_|refine P7 J J ?_|refine P6 J J J ?_ ?_|refine EL Ac (kc:=k) J J J J J J J J O J ?_|refine Ac1 Ac J J J J J hge J J J ?_|refine Ahq Ac 3 J J J J J J J J J J J J (by rw[hlb];simp) hne' (by simp[AW];omega) (fun _ _=>[]) (fun _ _ _=>⟨by simp,by simp⟩) (fun _ _=>rfl) (fun b' N' _=>?_)|refine NC Ac (ts:=[.slice (.phys b' N') 5 (o.batches.map Ap++[Ap b])]) J J J J J J J J J J hge J J ?_)
  all_goals exact Mw (b',N') trivial [] (Ad J J Aq) J
 ·rintro q _
  rw[hset]
  refine Tr.subGrow (es':=(l.set k {o with batches:=o.batches++[b]}).map Aw) 1 J ?_ ?_
  ·rw[List.map_set]
   refine Nk (DK.refl _) ?_
   exact⟨AJ.refl _,AJ.refl _,(by rw[List.map_append];exact AJ.any),trivial⟩
  repeat'(first|refine Ae Ac J J J ?_|refine Ag ?_|refine Ah ?_|refine Ai Ac J J ?_)
  refine Ar ?_
  exact BR [3] J J J (Sub.of_eq (by rw[hgl];rfl))
end Go.Proofs.YtpdmaenhenfofaaGreatDoor
namespace Go.Proofs.YtpdmaenhenfofaaGreatDoor
open Go.Am
attribute [local irreducible] Decidable.decide
set_option maxRecDepth 100000
set_option maxHeartbeats 1000000
theorem Adb {l:List Opn} (h:Srt Opn.pid l) {k:Nat} {o x:Opn} (hk:l[k]?=some o) (hx:x.pid=o.pid):l.set k x=Et Opn.pid x l:=by
 have hlt:=(List.getElem?_eq_some_iff.1 hk).1
 have hsp:l=l.take k++o::l.drop (k+1):=by rw[←BE hk,List.take_append_drop]
 have hs2:Srt Opn.pid (l.take k++o::l.drop (k+1)):=hsp▸h
 have h1:=List.pairwise_append.1 hs2
 have h3:=(List.pairwise_cons.1 h1.2.1).1
 obtain⟨q1,q2⟩:=Gj (f:=Opn.pid) (k:=x.pid) (a:=l.take k) (b:=o::l.drop (k+1)) (fun y hy=>by rw[hx];exact h1.2.2 y hy o Z) (fun y hy=>by
  rcases List.mem_cons.1 hy with rfl|hy
  ·omega
  ·have:=h3 y hy;omega)
 rw[←hsp]at q1 q2
 have q3:(l.drop (k+1)).filter (fun y=>decide (x.pid<y.pid))=l.drop (k+1):=List.filter_eq_self.2 fun y hy=>by have:=h3 y hy;simp;omega
 rw[List.filter_cons,if_neg (by simp;omega),q3]at q2
 unfold Et
 rw[q1,q2,List.set_eq_take_append_cons_drop,if_pos hlt]
theorem CtF.freezeK {P:Program} {f:Nat} {xs:List AV} {σ:St} {I:Type} {V:I→Prop} {r r':I→AV} {s s':I→St} {e:I→Env} (l:I→St) (h:CtF P f xs σ V r s) (hz: ∀i,Dx (l i) [r i] [] (s i)=([r' i],e i,s' i)):CtF P f xs σ V r' s':=by
 refine⟨h.1,fun vs w g hrl hi=>(h.2 vs w g hrl hi).mono ?_⟩
 rintro ed w' ⟨v,g1,i,rfl,hV,h1,h2,h3⟩
 obtain⟨g2,k1,k2,k3,_⟩:=CQ (w:=w') (l i) (a:=⟨#[],[]⟩) (hz i) h3 (vs:=[v]) (BL.cons h2 BL.nil) (fun t x hx=>by simp[Am.look]at hx)
 exact⟨v,g2,i,J,hV,h1.trans k1,k3.2 0 v (r' i) J J,k2⟩
def Ye (p:Part) (n:Nat):AV:=.agg [.t (.int .i64 p.start),.t (.int .i64 p.fin),.t (.slice .any 5 (p.rows.map AC)),.row 80 3 0 n,.t (.slice .any 4 (p.prods.map Av))]
theorem Adn (p:Part) (hs:Bt p):Ct Tryz.prog 53 [.agg (Aj (A5 p))] [] (Ye p p.opens.length) [(80,.grow 3 (p.opens.map Aw))]:=by
 refine Ct.freezeK (e:=[]) [(90,.grow 4 (p.prods.map Av)),(28,.grow 5 (p.rows.map AC))] (VW p hs) ?_
 have b1:Nat.beq 28 90=false:=rfl
 have b2:Nat.beq 80 90=false:=rfl
 have b3:Nat.beq 80 28=false:=rfl
 have b4:Nat.beq 90 28=false:=rfl
 have t1:(p.prods.map Av).take p.prods.length=p.prods.map Av:=List.take_of_length_le Z
 have t2:(p.rows.map AC).take p.rows.length=p.rows.map AC:=List.take_of_length_le Z
 simp[Dx,Lz,Ye,Am.look,Kd,AV.has,DD,H9,BA,Fh,b1,b2,b3,b4,t1,t2]
theorem Adm (p:Part) (hs:Bt p) (k:Nat) (o:Opn) (hk:p.opens[k]?=some o) (hne:o.batches≠[]):CtF Tryz.prog 53 [.agg (Aj (A5 p))] [] (fun _:Nat×Nat=>True) (fun _=>Ye p p.opens.length) (fun τ=>[(80,.grow 3 (tgO p.opens k τ o p.opens.length)),(52,.rights [(τ.1,τ.2,o.batches.length*5)])]):=by
 refine CtF.freezeK (e:=fun _=>[]) (fun _=>[(90,.grow 4 (p.prods.map Av)),(28,.grow 5 (p.rows.map AC))]) (Adl p hs k o hk hne) fun τ=>?_
 have b1:Nat.beq 28 90=false:=rfl
 have b2:Nat.beq 80 90=false:=rfl
 have b3:Nat.beq 80 28=false:=rfl
 have b4:Nat.beq 90 28=false:=rfl
 have b5:Nat.beq 52 28=false:=rfl
 have b6:Nat.beq 52 90=false:=rfl
 have t1:(p.prods.map Av).take p.prods.length=p.prods.map Av:=List.take_of_length_le Z
 have t2:(p.rows.map AC).take p.rows.length=p.rows.map AC:=List.take_of_length_le Z
 simp[Dx,Ye,Am.look,Kd,AV.has,DD,H9,BA,Fh,b1,b2,b3,b4,b5,b6,t1,t2]
theorem U5 {α:Type} {f:α→Int} {x:α}: ∀{l:List α},(∀o∈l,f o≠f x)→(Et f x l).length=l.length+1
 |[],_=>by simp[Et]
 |a::r,h=>by
  have ih:=U5 (f:=f) (x:=x) (l:=r) fun o ho=>h o (by simp[ho])
  have ha:=h a Z
  simp only[Et,List.length_append,List.length_cons,List.filter_cons]at ih⊢
  by_cases h1:f a<f x
  ·have h2: ¬f x<f a:=by omega
   simp only[h1,h2,decide_true,decide_false,if_true,List.length_cons]
   simp only[Bool.false_eq_true,if_false];omega
  ·have h2:f x<f a:=by omega
   simp only[h1,h2,decide_true,decide_false,if_true,List.length_cons]
   simp only[Bool.false_eq_true,if_false];omega
theorem OK {l:List Opn} {pid:Int} {o:Opn} (h:l.find? (fun o=>decide (o.pid=pid))=some o): ∃k:Nat,l[k]?=some o∧Em (fun o=>decide (o.pid=pid)) l=(k:Int)∧l.any (fun o=>decide (o.pid=pid))=true:=by
 have hany:l.any (fun o=>decide (o.pid=pid))=true:=List.any_eq_true.2 ⟨o,List.mem_of_find?_eq_some h,(List.find?_some h:)⟩
 obtain⟨i,x,h1,h2,h3⟩:=UK hany
 rw[h]at h3;cases h3
 exact⟨i,h1,h2,hany⟩
theorem T5 (e i:Int) (he:e=0∨e=1) (hi0:i=0∨i=1∨i=2) (p:Part) (b:Batch) (hs:Bt p) (hf:0≤p.fin∧p.fin≤1048576) (hsrt:Srt Opn.pid p.opens) (hb:A1 b=true) (ht:b.txn=true) (hc:B4 p.prods b=0) (hi:Cl p.prods b=false) (hr:FW p b=.nilIface) (hno: ∀o∈p.opens,o.pid≠b.pid):
  Ct Tryz.prog 38 [.t (wrT e i),.agg (Aj (A5 p)),.agg (Aj (Ap b))] [] (.tuple [.agg (Aj (A5 ⟨p.start,p.fin,p.rows,Et Opn.pid ⟨b.pid,b.epoch,[b]⟩ p.opens,EM p.prods b (-1)⟩)),.t (.int .i64 (-1)),.t (.slice .any 4 ((CX (Dv e i b) [HF b]).map BV)),.t .nilIface]) []:=by
 have hs':=hs
 obtain⟨s1,s2,s3,s4⟩:=hs'
 have hm:=AU hb
 have ck:=Hr p.prods b s4 O
 have cr:=Ib p b hs O O
 have co:=Adn p hs
 unfold Ye at co
 have cb:=GX b O
 have cj:=Aaw p.opens b s2 hsrt hno O
 rw[List.length_map]at cj
 have ct:=RU p.prods b (-1) s4 O
 rw[hc,hi]at ck
 rw[hr]at cr
 rw[KR hc hi (base:= -1) ⟨by omega,by omega⟩]at ct
 have ep:=LO (Dv e i b) [HF b] Z (by simp[DV,HF,CZ];omega)
 rw[VR hb,VQ hb]at ep
 have cI:e=0→Ct Tryz.prog 264 [.t (.agg (BK e i)),.agg (Aj (Ap b))] [] (.t (.str (Dv e i b))) []:=fun h=>by
  have:=Mu e i b he hi0
  subst h
  rwa[show Dv 0 i b=DH 0 i by simp[Dv]]
 have cB:e=1→Ct Tryz.prog 268 [.t (.agg (BK e i)),.agg (Aj (Ap b))] [] (.t (.str (Dv e i b))) []:=fun h=>by
  have:=Mv i b hi0 hb
  subst h
  exact this
 refine ct0 Ac Tryz.func38 J false J J ?_
 repeat'(first|refine An Ac J J J J J ?_|refine Ae Ac J J J ?_|refine Ag ?_|refine Ah ?_|refine Ai Ac J J ?_|(refine Af J (ht:=fun h=>?_) (hf:=fun h=>?_)<;>try exact prn)|refine Ao ?_|refine A9 (id:=12) (m:=4) Ac Y J J J J ?_|refine AA J J J J ?_|refine CY ?_|refine Ak Ac J J J J J J J (ck) J J ?_|refine Ak Ac J J J J J J J (cr) J J ?_|refine A7 Ac [] [(80,86)] J J J J J co J J J J J ?_|refine A7 Ac [(86,1)] [(1,86)] J J J J J cj J J J J J ?_|refine Ak Ac J J J J J J J (ct) J J ?_|refine AO J J J J J (cb) J J ?_)
 refine Tr.weak (E:=[(0,.t (wrT e i)),(5,.ref 10 0),(6,.ref 12 0),(10,.t (.int .i64 (-1))),(14,.ref 28 0)]) (S:=[(86,.grow 3 ((Et Opn.pid ⟨b.pid,b.epoch,[b]⟩ p.opens).map Aw)),(28,.cells [.t (.int .i64 p.start),.t (.int .i64 p.fin),.t (.slice .any 5 (p.rows.map AC)),.row 86 3 0 (p.opens.length+1),.t (.slice .any 4 ((EM p.prods b (-1)).map Av))]),(12,.cells (Aj F8.zero)),(10,.cells (Aj (Ap b)))]) ?_ (AR [4] (Ad J J (Ad J J (Ad J J (Ad J J (Ad J J Aq))))) J)
 have hw:(e=0∧wrT e i=.iface 152 (.agg (BK e i)))∨(e=1∧wrT e i=.iface 153 (.agg (BK e i))):=by
  rcases he with rfl|rfl
  ·exact .inl ⟨J,J⟩
  ·exact .inr ⟨J,J⟩
 have hil:(Et Opn.pid ⟨b.pid,b.epoch,[b]⟩ p.opens).length=p.opens.length+1:=U5 hno
 rcases hw with⟨he1,hw⟩|⟨he1,hw⟩<;>rw[hw]
 ·have cI:=cI he1
  repeat'(first|refine An Ac J J J J J ?_|refine Ae Ac J J J ?_|refine Ag ?_|refine Ah ?_|refine Ai Ac J J ?_|(refine Af J (ht:=fun h=>?_) (hf:=fun h=>?_)<;>try exact prn)|refine Ao ?_|refine Ar ?_|refine A9 (id:=18) (m:=11) Ac Y J J J J ?_|refine AA J J J J ?_|refine AO J J J J J (cI) J J ?_|refine AO J J J J J (Ct.args ep ⟨Sub.refl _,Hh ⟨⟨AJ.refl _,AJ.refl _,AJ.refl _,AJ.refl _,AJ.refl _,AJ.refl _,AJ.refl _,AJ.refl _,AJ.refl _,AJ.refl _,AJ.refl _,AJ.refl _,AJ.refl _,AJ.refl _,AJ.refl _,AJ.refl _,AJ.refl _,AJ.nil,trivial⟩,trivial⟩,trivial⟩) J J ?_)
  refine Au J (Sub.of_eq ?_)
  simp[A5,Aj,BA,hil]
  exact List.take_of_length_le (by simp[hil])
 ·have cB:=cB he1
  repeat'(first|refine An Ac J J J J J ?_|refine Ae Ac J J J ?_|refine Ag ?_|refine Ah ?_|refine Ai Ac J J ?_|(refine Af J (ht:=fun h=>?_) (hf:=fun h=>?_)<;>try exact prn)|refine Ao ?_|refine Ar ?_|refine A9 (id:=18) (m:=11) Ac Y J J J J ?_|refine AA J J J J ?_|refine AO J J J J J (cB) J J ?_|refine AO J J J J J (Ct.args ep ⟨Sub.refl _,Hh ⟨⟨AJ.refl _,AJ.refl _,AJ.refl _,AJ.refl _,AJ.refl _,AJ.refl _,AJ.refl _,AJ.refl _,AJ.refl _,AJ.refl _,AJ.refl _,AJ.refl _,AJ.refl _,AJ.refl _,AJ.refl _,AJ.refl _,AJ.refl _,AJ.nil,trivial⟩,trivial⟩,trivial⟩) J J ?_)
  refine Au J (Sub.of_eq ?_)
  simp[A5,Aj,BA,hil]
  exact List.take_of_length_le (by simp[hil])
theorem T6 (e i:Int) (he:e=0∨e=1) (hi0:i=0∨i=1∨i=2) (p:Part) (b:Batch) (hs:Bt p) (hf:0≤p.fin∧p.fin≤1048576) (hb:A1 b=true) (ht:b.txn=true) (hc:B4 p.prods b=0) (hi:Cl p.prods b=false) (hr:FW p b=.nilIface) (k:Nat) (o:Opn) (hk:p.opens[k]?=some o) (hidx:Em (fun o=>decide (o.pid=b.pid)) p.opens=(k:Int)) (hany:p.opens.any (fun o=>decide (o.pid=b.pid))=true) (hne:o.batches≠[]):
  Ct Tryz.prog 38 [.t (wrT e i),.agg (Aj (A5 p)),.agg (Aj (Ap b))] [] (.tuple [.agg (Aj (A5 ⟨p.start,p.fin,p.rows,p.opens.set k {o with batches:=o.batches++[b]},EM p.prods b (-1)⟩)),.t (.int .i64 (-1)),.t (.slice .any 4 ((CX (Dv e i b) [HF b]).map BV)),.t .nilIface]) []:=by
 have hs':=hs
 obtain⟨s1,s2,s3,s4⟩:=hs'
 have hm:=AU hb
 have ck:=Hr p.prods b s4 O
 have cr:=Ib p b hs O O
 have co:=Adm p hs k o hk hne
 unfold Ye at co
 have cb:=GX b O
 have hso:=s3 o (List.mem_of_getElem? hk)
 have cj:=fun τ=>Aax p.opens b k o τ s2 hk hidx hany hne hso.1
 have hgl: ∀τ,(tgO p.opens k τ o p.opens.length).length=p.opens.length:=fun τ=>Nu (Nat.le_refl _)
 simp only[hgl]at cj
 have ct:=RU p.prods b (-1) s4 O
 rw[hc,hi]at ck
 rw[hr]at cr
 rw[KR hc hi (base:= -1) ⟨by omega,by omega⟩]at ct
 have ep:=LO (Dv e i b) [HF b] Z (by simp[DV,HF,CZ];omega)
 rw[VR hb,VQ hb]at ep
 have cI:e=0→Ct Tryz.prog 264 [.t (.agg (BK e i)),.agg (Aj (Ap b))] [] (.t (.str (Dv e i b))) []:=fun h=>by
  have:=Mu e i b he hi0
  subst h
  rwa[show Dv 0 i b=DH 0 i by simp[Dv]]
 have cB:e=1→Ct Tryz.prog 268 [.t (.agg (BK e i)),.agg (Aj (Ap b))] [] (.t (.str (Dv e i b))) []:=fun h=>by
  have:=Mv i b hi0 hb
  subst h
  exact this
 refine ct0 Ac Tryz.func38 J false J J ?_
 repeat'(first|refine An Ac J J J J J ?_|refine Ae Ac J J J ?_|refine Ag ?_|refine Ah ?_|refine Ai Ac J J ?_|(refine Af J (ht:=fun h=>?_) (hf:=fun h=>?_)<;>try exact prn)|refine Ao ?_|refine A9 (id:=12) (m:=4) Ac Y J J J J ?_|refine AA J J J J ?_|refine CY ?_|refine Ak Ac J J J J J J J (ck) J J ?_|refine Ak Ac J J J J J J J (cr) J J ?_|refine WM Ac [] [(80,86),(52,88)] J J J J J co J (fun _ _=>rfl) (fun _ _=>rfl) (fun _ _=>rfl) (fun τ _=>?_)|refine A7 Ac [(86,1),(88,3)] [(1,86),(3,88)] J J J J J (cj _) J J J J J ?_|refine Ak Ac J J J J J J J (ct) J J ?_|refine AO J J J J J (cb) J J ?_)
 refine Tr.weak (E:=[(0,.t (wrT e i)),(5,.ref 10 0),(6,.ref 12 0),(10,.t (.int .i64 (-1))),(14,.ref 28 0)]) (S:=[(86,.grow 3 ((p.opens.set k {o with batches:=o.batches++[b]}).map Aw)),(88,.rights []),(28,.cells [.t (.int .i64 p.start),.t (.int .i64 p.fin),.t (.slice .any 5 (p.rows.map AC)),.row 86 3 0 p.opens.length,.t (.slice .any 4 ((EM p.prods b (-1)).map Av))]),(12,.cells (Aj F8.zero)),(10,.cells (Aj (Ap b)))]) ?_ (AR [4] (Ad J J (Ad J J (Ad J J (Ad J J (Ad J J Aq))))) J)
 have hw:(e=0∧wrT e i=.iface 152 (.agg (BK e i)))∨(e=1∧wrT e i=.iface 153 (.agg (BK e i))):=by
  rcases he with rfl|rfl
  ·exact .inl ⟨J,J⟩
  ·exact .inr ⟨J,J⟩
 have hil:(p.opens.set k {o with batches:=o.batches++[b]}).length=p.opens.length:=List.length_set
 rcases hw with⟨he1,hw⟩|⟨he1,hw⟩<;>rw[hw]
 ·have cI:=cI he1
  repeat'(first|refine An Ac J J J J J ?_|refine Ae Ac J J J ?_|refine Ag ?_|refine Ah ?_|refine Ai Ac J J ?_|(refine Af J (ht:=fun h=>?_) (hf:=fun h=>?_)<;>try exact prn)|refine Ao ?_|refine Ar ?_|refine A9 (id:=18) (m:=11) Ac Y J J J J ?_|refine AA J J J J ?_|refine AO J J J J J (cI) J J ?_|refine AO J J J J J (Ct.args ep ⟨Sub.refl _,Hh ⟨⟨AJ.refl _,AJ.refl _,AJ.refl _,AJ.refl _,AJ.refl _,AJ.refl _,AJ.refl _,AJ.refl _,AJ.refl _,AJ.refl _,AJ.refl _,AJ.refl _,AJ.refl _,AJ.refl _,AJ.refl _,AJ.refl _,AJ.refl _,AJ.nil,trivial⟩,trivial⟩,trivial⟩) J J ?_)
  refine Au J (Sub.of_eq ?_)
  simp[A5,Aj,BA,hil]
  exact List.take_of_length_le (by simp[hil])
 ·have cB:=cB he1
  repeat'(first|refine An Ac J J J J J ?_|refine Ae Ac J J J ?_|refine Ag ?_|refine Ah ?_|refine Ai Ac J J ?_|(refine Af J (ht:=fun h=>?_) (hf:=fun h=>?_)<;>try exact prn)|refine Ao ?_|refine Ar ?_|refine A9 (id:=18) (m:=11) Ac Y J J J J ?_|refine AA J J J J ?_|refine AO J J J J J (cB) J J ?_|refine AO J J J J J (Ct.args ep ⟨Sub.refl _,Hh ⟨⟨AJ.refl _,AJ.refl _,AJ.refl _,AJ.refl _,AJ.refl _,AJ.refl _,AJ.refl _,AJ.refl _,AJ.refl _,AJ.refl _,AJ.refl _,AJ.refl _,AJ.refl _,AJ.refl _,AJ.refl _,AJ.refl _,AJ.refl _,AJ.nil,trivial⟩,trivial⟩,trivial⟩) J J ?_)
  refine Au J (Sub.of_eq ?_)
  simp[A5,Aj,BA,hil]
  exact List.take_of_length_le (by simp[hil])
end Go.Proofs.YtpdmaenhenfofaaGreatDoor
namespace Go.Proofs.YtpdmaenhenfofaaGreatDoor
open Go.Am
attribute [local irreducible] Decidable.decide
set_option maxRecDepth 100000
set_option maxHeartbeats 1000000
theorem T3 (e i:Int) (he:e=0∨e=1) (hi0:i=0∨i=1∨i=2) (p:Part) (b:Batch) (hs:Bt p) (hp:POk p) (hb:A1 b=true) (ht:b.txn=true) (hc:B4 p.prods b=0) (hi:Cl p.prods b=false) (hr:Hw p b=none):
  Ct Tryz.prog 38 [.t (wrT e i),.agg (Aj (A5 p)),.agg (Aj (Ap b))] [] (CP e i p b).av []:=by
 have hf:0≤p.fin∧p.fin≤1048576:=⟨by have:=hp.b0;have:=hp.b1;omega,hp.b2⟩
 have hr2:=Fl hr
 have hP:CP e i p b=⟨Gc p b,-1,CX (Dv e i b) [HF b],none⟩:=by simp[CP,hc,hi,hr,ht]
 rw[hP]
 have hro:=(Hv hr2).1
 cases hf2:p.opens.find? (fun o=>decide (o.pid=b.pid))with
 |none=>
  have hno: ∀o∈p.opens,o.pid≠b.pid:=fun o ho=>by simpa using List.find?_eq_none.1 hf2 o ho
  have:=T5 e i he hi0 p b hs hf hp.osrt hb ht hc hi hr2 hno
  rw[show Gc p b=⟨p.start,p.fin,p.rows,Et Opn.pid ⟨b.pid,b.epoch,[b]⟩ p.opens,EM p.prods b (-1)⟩by simp[Gc,C1,hf2]]
  exact this
 |some o=>
  obtain⟨k,hk,hidx,hany⟩:=OK hf2
  have hpid:o.pid=b.pid:=by simpa using List.find?_some hf2
  have hcl:=Cc (hp.ook o (List.mem_of_find?_eq_some hf2)).1
  have hne:o.batches≠[]:=fun h=>by rw[h]at hcl;simp at hcl
  have:=T6 e i he hi0 p b hs hf hb ht hc hi hr2 k o hk hidx hany hne
  have hopen:C1 p.opens b={o with batches:=o.batches++[b]}:=by simp[C1,hf2]
  rw[show Gc p b=⟨p.start,p.fin,p.rows,p.opens.set k {o with batches:=o.batches++[b]},EM p.prods b (-1)⟩by
   rw[Adb (x:={o with batches:=o.batches++[b]}) hp.osrt hk J,←hopen];rfl]
  exact this
theorem PK (e i:Int) (he:e=0∨e=1) (hi0:i=0∨i=1∨i=2) (p:Part) (b:Batch) (hs:Bt p) (hp:POk p) (hb:A1 b=true):
  Ct Tryz.prog 38 [.t (wrT e i),.agg (Aj (A5 p)),.agg (Aj (Ap b))] [] (CP e i p b).av []:=
 T7 e i he hi0 p b hs ⟨by have:=hp.b0;have:=hp.b1;omega,hp.b2⟩ hb fun ht hc hi hr=>T3 e i he hi0 p b hs hp hb ht hc hi hr
theorem WI (e q:Int) (p:Part) (b:Batch) (hs:Bt p) (hl:b.recs.length≤1000000):
  Ct Tryz.prog 15 [.t (.int .i8 e),.t (.int .i64 q),.agg (Aj (A5 p)),.agg (Aj (Ap b))] [] (B8 e q p b).av []:=
 T2 e q p b hs hl fun hbad hb=>by
  obtain⟨_,he,hq,hpk⟩:=F5 hbad
  exact PK e q he hq p b hs (Aoo.1 hpk) hb
end Go.Proofs.YtpdmaenhenfofaaGreatDoor
