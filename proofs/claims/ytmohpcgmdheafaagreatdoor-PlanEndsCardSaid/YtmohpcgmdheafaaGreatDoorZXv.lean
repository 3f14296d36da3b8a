/- Contracts and laws, joined: Xv0, Xv1, Xv2. No condition beside those that each theorem names. -/
import Derived.Test.YtmohpcgmdheafaaGreatDoorZK7
import Derived.Test.YtmohpcgmdheafaaGreatDoorZSd
set_option linter.unusedVariables false
set_option linter.unusedSimpArgs false
set_option maxRecDepth 100000
set_option maxHeartbeats 8000000
namespace Go.Proofs.YtmohpcgmdheafaaGreatDoor
open Go.Am
attribute [local irreducible] Decidable.decide Tr A2 hSK hSW
theorem Adq (s:MState) (hs:SmallM s) (hp:DH s.t0=0) (h3':s.t0.state=3) (hq:s.t0.pends.all Cc=true):A17 130 [.ref 1 0,.agg (Ah (Ax (e4 0)))] [(1,.cells (Ah (A6 s)))] (.t .nilIface) [(1,.cells (Ah (A6 (BI (AO s 0 (Cd s.t0)) s.t0.pends))))]:=by
 rw[Fr]
 have cp:=IW s.t0 hs.t0
 rw[hp]at cp
 have hlm:(s.t0.pends.map AB).length=s.t0.pends.length:=List.length_map ..
 have hpl:=hs.t0.pends
 refine ct1 Ag Tryz.func130 Y Y ?_
 repeat'(first|exact prB|refine stA ?_|refine Cj (fun _ _ _ _=>?_)|refine stU (fun h=>?_) fun h=>?_|refine Bu (fun _ _ _ _ _=>?_)|refine Ca ?_|refine Ff Ad ?_|refine Fd Ad ?_|refine Fe Ad Y ?_|refine stN (fun b hb=>?_)|refine stE 13 6 ?_|refine stE 38 10 ?_|refine stL ?_ (c:=cp)|refine BC (id:=1) (m:=8) (ms:=[0,0,2,1,9,31,63,0,255]) Ag [(8,10)] Ab Y Y Y Y Ab Ab ?_|refine BC (id:=33) (m:=6) (ms:=[0,0,2,0,1,17,63,127]) Ag [(7,1)] Ab Y Y Y Y Ab Ab ?_|fail)
 all_goals try(exfalso;simp_all;done)
 refine A3 (ι:=Nat) (fun k=>k<=s.t0.pends.length) (fun k=>[(0,.ref 1 0),(7,.t (.int .i64 0)),(142,.t (.slice .any 3 (s.t0.pends.map AB))),(143,.t (.int .i64 ((s.t0.pends.map AB).length:Int))),(144,.t (.int .i64 k))]) (fun k=>[(1,.cells (Ah (A6 (BI (AO s 0 (Cd s.t0)) (s.t0.pends.take k)))))]) (fun k=>s.t0.pends.length-k) 0 Ac ?_ ?_
 ·exact AE [3,5] (Af Y Y (Af Y Y (Af Y Y (Af Y Y (Af Y Y Aj))))) Y
 rintro k hk
 by_cases hlt:k<s.t0.pends.length
 ·have hr:s.t0.pends[k]?=some s.t0.pends[k]:=List.getElem?_eq_getElem hlt
  have hin:Cc s.t0.pends[k]=true:=List.all_eq_true.1 hq _ (List.getElem_mem hlt)
  generalize s.t0.pends[k]=p at hr hin
  obtain⟨hg,hpt⟩:=Jk hin
  have ht:s.t0.pends.take (k+1)=s.t0.pends.take k++[p]:=A5 hr
  obtain⟨pg,pp,po⟩:=p
  simp only at hg hpt
  generalize hX:BI (AO s 0 (Cd s.t0)) (s.t0.pends.take k)=X
  generalize hL:s.t0.pends=L at hr hlm hpl hlt ht hX
  clear cp hp h3' hq hs hin
  rcases hg with rfl|rfl<;>rcases hpt with rfl|rfl|rfl
  all_goals
   repeat'(first|exact prB|refine stA ?_|refine Cj (fun _ _ _ _=>?_)|refine stU (fun h=>?_) fun h=>?_|refine Bu (fun _ _ _ _ _=>?_)|refine Ca ?_|refine Ff Ad ?_|refine Fd Ad ?_|refine Fe Ad Y ?_|refine stN (fun b hb=>?_)|refine stE 1 8 ?_|refine stE 13 6 ?_|refine stE 20 6 ?_|refine stE 26 6 ?_|refine stE 28 6 ?_|refine stE 33 6 ?_|refine stE 40 12 ?_|refine BC (id:=38) (m:=10) (ms:=[0,0,2,0,8,0,32,1,129,391,1023,2047]) Ag [(11,1)] Ab Y Y Y Y Ab Ab ?_|fail)
   all_goals first
    |(refine Ay (k+1) hlt Aa [12] (Af Y Y (Af Y Y (Af Y Y (Af Y Y (Af Y (by rw[An Aa Aa];rfl) Aj))))) ?_
      rw[ht,Fk,hX];rfl)
 ·repeat'(first|exact prB|refine stA ?_|refine Cj (fun _ _ _ _=>?_)|refine stU (fun h=>?_) fun h=>?_|refine Bu (fun _ _ _ _ _=>?_)|refine Ca ?_|refine Ff Ad ?_|refine Fd Ad ?_|refine Fe Ad Y ?_|refine stN (fun b hb=>?_)|refine stE 1 8 ?_|refine stE 13 6 ?_|refine stE 20 6 ?_|refine stE 26 6 ?_|refine stE 28 6 ?_|refine stE 33 6 ?_|refine stE 38 10 ?_|refine stE 40 12 ?_|fail)
  all_goals try(exfalso;omega)
  rw[List.take_of_length_le (show s.t0.pends.length<=k by omega)]
  exact Ba [] Y Y Y (A1x _)
theorem Adp (s:MState) (hs:SmallM s) (hp:DH s.t1=0) (h3':s.t1.state=3) (hq:s.t1.pends.all Cc=true):A17 130 [.ref 1 0,.agg (Ah (Ax (e4 1)))] [(1,.cells (Ah (A6 s)))] (.t .nilIface) [(1,.cells (Ah (A6 (BI (AO s 1 (Cd s.t1)) s.t1.pends))))]:=by
 rw[Fr]
 have cp:=IW s.t1 hs.t1
 rw[hp]at cp
 have hlm:(s.t1.pends.map AB).length=s.t1.pends.length:=List.length_map ..
 have hpl:=hs.t1.pends
 refine ct1 Ag Tryz.func130 Y Y ?_
 repeat'(first|exact prB|refine stA ?_|refine Cj (fun _ _ _ _=>?_)|refine stU (fun h=>?_) fun h=>?_|refine Bu (fun _ _ _ _ _=>?_)|refine Ca ?_|refine Ff Ad ?_|refine Fd Ad ?_|refine Fe Ad Y ?_|refine stN (fun b hb=>?_)|refine stE 13 6 ?_|refine stE 38 10 ?_|refine stL ?_ (c:=cp)|refine BC (id:=1) (m:=8) (ms:=[0,0,2,1,9,31,63,0,255]) Ag [(8,10)] Ab Y Y Y Y Ab Ab ?_|refine BC (id:=33) (m:=6) (ms:=[0,0,2,0,1,17,63,127]) Ag [(7,1)] Ab Y Y Y Y Ab Ab ?_|fail)
 all_goals try(exfalso;simp_all;done)
 refine A3 (ι:=Nat) (fun k=>k<=s.t1.pends.length) (fun k=>[(0,.ref 1 0),(7,.t (.int .i64 0)),(142,.t (.slice .any 3 (s.t1.pends.map AB))),(143,.t (.int .i64 ((s.t1.pends.map AB).length:Int))),(144,.t (.int .i64 k))]) (fun k=>[(1,.cells (Ah (A6 (BI (AO s 1 (Cd s.t1)) (s.t1.pends.take k)))))]) (fun k=>s.t1.pends.length-k) 0 Ac ?_ ?_
 ·exact AE [3,5] (Af Y Y (Af Y Y (Af Y Y (Af Y Y (Af Y Y Aj))))) Y
 rintro k hk
 by_cases hlt:k<s.t1.pends.length
 ·have hr:s.t1.pends[k]?=some s.t1.pends[k]:=List.getElem?_eq_getElem hlt
  have hin:Cc s.t1.pends[k]=true:=List.all_eq_true.1 hq _ (List.getElem_mem hlt)
  generalize s.t1.pends[k]=p at hr hin
  obtain⟨hg,hpt⟩:=Jk hin
  have ht:s.t1.pends.take (k+1)=s.t1.pends.take k++[p]:=A5 hr
  obtain⟨pg,pp,po⟩:=p
  simp only at hg hpt
  generalize hX:BI (AO s 1 (Cd s.t1)) (s.t1.pends.take k)=X
  generalize hL:s.t1.pends=L at hr hlm hpl hlt ht hX
  clear cp hp h3' hq hs hin
  rcases hg with rfl|rfl<;>rcases hpt with rfl|rfl|rfl
  all_goals
   repeat'(first|exact prB|refine stA ?_|refine Cj (fun _ _ _ _=>?_)|refine stU (fun h=>?_) fun h=>?_|refine Bu (fun _ _ _ _ _=>?_)|refine Ca ?_|refine Ff Ad ?_|refine Fd Ad ?_|refine Fe Ad Y ?_|refine stN (fun b hb=>?_)|refine stE 1 8 ?_|refine stE 13 6 ?_|refine stE 20 6 ?_|refine stE 26 6 ?_|refine stE 28 6 ?_|refine stE 33 6 ?_|refine stE 40 12 ?_|refine BC (id:=38) (m:=10) (ms:=[0,0,2,0,8,0,32,1,129,391,1023,2047]) Ag [(11,1)] Ab Y Y Y Y Ab Ab ?_|fail)
   all_goals first
    |(refine Ay (k+1) hlt Aa [12] (Af Y Y (Af Y Y (Af Y Y (Af Y Y (Af Y (by rw[An Aa Aa];rfl) Aj))))) ?_
      rw[ht,Fk,hX];rfl)
 ·repeat'(first|exact prB|refine stA ?_|refine Cj (fun _ _ _ _=>?_)|refine stU (fun h=>?_) fun h=>?_|refine Bu (fun _ _ _ _ _=>?_)|refine Ca ?_|refine Ff Ad ?_|refine Fd Ad ?_|refine Fe Ad Y ?_|refine stN (fun b hb=>?_)|refine stE 1 8 ?_|refine stE 13 6 ?_|refine stE 20 6 ?_|refine stE 26 6 ?_|refine stE 28 6 ?_|refine stE 33 6 ?_|refine stE 38 10 ?_|refine stE 40 12 ?_|fail)
  all_goals try(exfalso;omega)
  rw[List.take_of_length_le (show s.t1.pends.length<=k by omega)]
  exact Ba [] Y Y Y (A1x _)
theorem Ado (s:MState) (hs:SmallM s) (hp:DH s.t2=0) (h3':s.t2.state=3) (hq:s.t2.pends.all Cc=true):A17 130 [.ref 1 0,.agg (Ah (Ax (e4 2)))] [(1,.cells (Ah (A6 s)))] (.t .nilIface) [(1,.cells (Ah (A6 (BI (AO s 2 (Cd s.t2)) s.t2.pends))))]:=by
 rw[Fr]
 have cp:=IW s.t2 hs.t2
 rw[hp]at cp
 have hlm:(s.t2.pends.map AB).length=s.t2.pends.length:=List.length_map ..
 have hpl:=hs.t2.pends
 refine ct1 Ag Tryz.func130 Y Y ?_
 repeat'(first|exact prB|refine stA ?_|refine Cj (fun _ _ _ _=>?_)|refine stU (fun h=>?_) fun h=>?_|refine Bu (fun _ _ _ _ _=>?_)|refine Ca ?_|refine Ff Ad ?_|refine Fd Ad ?_|refine Fe Ad Y ?_|refine stN (fun b hb=>?_)|refine stE 13 6 ?_|refine stE 38 10 ?_|refine stL ?_ (c:=cp)|refine BC (id:=1) (m:=8) (ms:=[0,0,2,1,9,31,63,0,255]) Ag [(8,10)] Ab Y Y Y Y Ab Ab ?_|refine BC (id:=33) (m:=6) (ms:=[0,0,2,0,1,17,63,127]) Ag [(7,1)] Ab Y Y Y Y Ab Ab ?_|fail)
 all_goals try(exfalso;simp_all;done)
 refine A3 (ι:=Nat) (fun k=>k<=s.t2.pends.length) (fun k=>[(0,.ref 1 0),(7,.t (.int .i64 0)),(142,.t (.slice .any 3 (s.t2.pends.map AB))),(143,.t (.int .i64 ((s.t2.pends.map AB).length:Int))),(144,.t (.int .i64 k))]) (fun k=>[(1,.cells (Ah (A6 (BI (AO s 2 (Cd s.t2)) (s.t2.pends.take k)))))]) (fun k=>s.t2.pends.length-k) 0 Ac ?_ ?_
 ·exact AE [3,5] (Af Y Y (Af Y Y (Af Y Y (Af Y Y (Af Y Y Aj))))) Y
 rintro k hk
 by_cases hlt:k<s.t2.pends.length
 ·have hr:s.t2.pends[k]?=some s.t2.pends[k]:=List.getElem?_eq_getElem hlt
  have hin:Cc s.t2.pends[k]=true:=List.all_eq_true.1 hq _ (List.getElem_mem hlt)
  generalize s.t2.pends[k]=p at hr hin
  obtain⟨hg,hpt⟩:=Jk hin
  have ht:s.t2.pends.take (k+1)=s.t2.pends.take k++[p]:=A5 hr
  obtain⟨pg,pp,po⟩:=p
  simp only at hg hpt
  generalize hX:BI (AO s 2 (Cd s.t2)) (s.t2.pends.take k)=X
  generalize hL:s.t2.pends=L at hr hlm hpl hlt ht hX
  clear cp hp h3' hq hs hin
  rcases hg with rfl|rfl<;>rcases hpt with rfl|rfl|rfl
  all_goals
   repeat'(first|exact prB|refine stA ?_|refine Cj (fun _ _ _ _=>?_)|refine stU (fun h=>?_) fun h=>?_|refine Bu (fun _ _ _ _ _=>?_)|refine Ca ?_|refine Ff Ad ?_|refine Fd Ad ?_|refine Fe Ad Y ?_|refine stN (fun b hb=>?_)|refine stE 1 8 ?_|refine stE 13 6 ?_|refine stE 20 6 ?_|refine stE 26 6 ?_|refine stE 28 6 ?_|refine stE 33 6 ?_|refine stE 40 12 ?_|refine BC (id:=38) (m:=10) (ms:=[0,0,2,0,8,0,32,1,129,391,1023,2047]) Ag [(11,1)] Ab Y Y Y Y Ab Ab ?_|fail)
   all_goals first
    |(refine Ay (k+1) hlt Aa [12] (Af Y Y (Af Y Y (Af Y Y (Af Y Y (Af Y (by rw[An Aa Aa];rfl) Aj))))) ?_
      rw[ht,Fk,hX];rfl)
 ·repeat'(first|exact prB|refine stA ?_|refine Cj (fun _ _ _ _=>?_)|refine stU (fun h=>?_) fun h=>?_|refine Bu (fun _ _ _ _ _=>?_)|refine Ca ?_|refine Ff Ad ?_|refine Fd Ad ?_|refine Fe Ad Y ?_|refine stN (fun b hb=>?_)|refine stE 1 8 ?_|refine stE 13 6 ?_|refine stE 20 6 ?_|refine stE 26 6 ?_|refine stE 28 6 ?_|refine stE 33 6 ?_|refine stE 38 10 ?_|refine stE 40 12 ?_|fail)
  all_goals try(exfalso;omega)
  rw[List.take_of_length_le (show s.t2.pends.length<=k by omega)]
  exact Ba [] Y Y Y (A1x _)
end Go.Proofs.YtmohpcgmdheafaaGreatDoor
