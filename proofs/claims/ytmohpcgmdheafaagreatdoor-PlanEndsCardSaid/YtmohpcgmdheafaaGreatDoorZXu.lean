/- Contracts of the coordinator's state: the walks of what an entry does. -/
import Derived.Test.YtmohpcgmdheafaaGreatDoorZXv
set_option linter.unusedVariables false
set_option linter.unusedSimpArgs false
set_option maxRecDepth 100000
set_option maxHeartbeats 8000000
namespace Go.Proofs.YtmohpcgmdheafaaGreatDoor
open Go.Am
attribute [local irreducible] Decidable.decide Tr A2 hSK hSW
theorem Aho (s:MState) (hs:SmallM s) (tid:Int) (yes:Bool) (thn:Int) (h1:0<=tid/\tid<3) (hp:Cb (Av s tid) yes thn=0):A17 130 [.ref 1 0,.agg (Ah (Ax (e3 tid yes thn)))] [(1,.cells (Ah (A6 s)))] (.t .nilIface) [(1,.cells (Ah (A6 (AO s tid (C9 (Av s tid) yes thn)))))]:=by
 rw[HN]
 have cp:=SV (Av s tid) (hs.tid tid) yes thn
 rw[hp]at cp
 rcases BB h1 with rfl|rfl|rfl
 all_goals
  refine ct1 Ag Tryz.func130 Y Y ?_
  repeat'(first|exact prB|refine stA ?_|refine Cj (fun _ _ _ _=>?_)|refine stU (fun h=>?_) fun h=>?_|refine Bu (fun _ _ _ _ _=>?_)|refine Ca ?_|refine Ff Ad ?_|refine Fd Ad ?_|refine Fe Ad Y ?_|refine stN (fun b hb=>?_)|refine stE 13 6 ?_|refine stE 38 10 ?_|refine stL ?_ (c:=cp)|refine BC (id:=1) (m:=8) (ms:=[0,0,2,1,9,31,63,0,255]) Ag [(8,10)] Ab Y Y Y Y Ab Ab ?_|refine BC (id:=28) (m:=6) (ms:=[0,0,2,0,1,17,63,127]) Ag [(7,1)] Ab Y Y Y Y Ab Ab ?_|fail)
  all_goals first
   |exact Ba [3,5] Y Y Y (A1x _)
theorem Ahn (s:MState) (hs:SmallM s) (tid:Int) (h1:0<=tid/\tid<3) (hp:DH (Av s tid)=0) (hq:(Av s tid).pends.all Cc=true):A17 130 [.ref 1 0,.agg (Ah (Ax (e4 tid)))] [(1,.cells (Ah (A6 s)))] (.t .nilIface) [(1,.cells (Ah (A6 (D4 s tid))))]:=by
 unfold D4
 by_cases h3:(Av s tid).state=3
 ·rw[if_pos h3]
  rcases BB h1 with rfl|rfl|rfl
  ·exact Adq s hs hp h3 hq
  ·exact Adp s hs hp h3 hq
  ·exact Ado s hs hp h3 hq
 ·rw[if_neg h3]
  rw[Fr]
  have cp:=IW (Av s tid) (hs.tid tid)
  rw[hp]at cp
  rcases BB h1 with rfl|rfl|rfl
  all_goals
   refine ct1 Ag Tryz.func130 Y Y ?_
   repeat'(first|exact prB|refine stA ?_|refine Cj (fun _ _ _ _=>?_)|refine stU (fun h=>?_) fun h=>?_|refine Bu (fun _ _ _ _ _=>?_)|refine Ca ?_|refine Ff Ad ?_|refine Fd Ad ?_|refine Fe Ad Y ?_|refine stN (fun b hb=>?_)|refine stE 13 6 ?_|refine stE 38 10 ?_|refine stL ?_ (c:=cp)|refine BC (id:=1) (m:=8) (ms:=[0,0,2,1,9,31,63,0,255]) Ag [(8,10)] Ab Y Y Y Y Ab Ab ?_|refine BC (id:=33) (m:=6) (ms:=[0,0,2,0,1,17,63,127]) Ag [(7,1)] Ab Y Y Y Y Ab Ab ?_|fail)
   all_goals first
    |(exfalso;simp_all[Av];done)
    |exact Ba [3,5] Y Y Y (A1x _)
theorem Ahi (s:MState) (hs:SmallM s) (tid:Int) (yes:Bool) (thn:Int) (h1:0<=tid/\tid<3) (h2:(0<=thn/\thn<=20)/\(yes=true->thn=0)) (hp:Cb (Av s tid) yes thn=0) (hm:BQ s=true) (hm':BQ (AO s tid (C9 (Av s tid) yes thn))=true):A17 71 [.agg (Ah (A6 s)),.agg (Ah (Ax (e3 tid yes thn)))] [] (.tuple [.agg (Ah (A6 (AO s tid (C9 (Av s tid) yes thn)))),.t (.int .i64 0)]) []:=by
 have hs':=hs.set tid (Acj (hs.tid tid) yes thn)
 have c0:=EP s hs.t0 hs.t1 hs.t2
 have c1:=EP _ hs'.t0 hs'.t1 hs'.t2
 rw[hm]at c0
 rw[hm']at c1
 have cy:=Abb tid yes thn h1 h2
 have co:=Ve s hs.t0 hs.t1 hs.t2
 have cv:=Aho s hs tid yes thn h1 hp
 generalize AO s tid (C9 (Av s tid) yes thn)=S' at c1 cv⊢
 refine ct0 Ag Tryz.func71 Y false Y Y ?_
 repeat'(first|exact prB|refine stA ?_|refine Cj (fun _ _ _ _=>?_)|refine stU (fun h=>?_) fun h=>?_|refine Bu (fun _ _ _ _ _=>?_)|refine Ca ?_|refine Ff Ad ?_|refine Fd Ad ?_|refine Fe Ad Y ?_|refine stN (fun b hb=>?_)|refine stL ?_ (c:=c0)|refine stL ?_ (c:=c1)|refine stL ?_ (c:=cy)|refine stL ?_ (c:=co)|refine A0 Ag [(12,1)] [(1,12)] Y Y Y Y Y cv Y Y Y Y Y ?_|fail)
 all_goals first
  |(exfalso;simp_all;done)
  |exact Ai Y (A1y Y)
theorem Ahh (s:MState) (hs:SmallM s) (tid:Int) (h1:0<=tid/\tid<3) (hp:DH (Av s tid)=0) (hq:(Av s tid).pends.all Cc=true) (hm:BQ s=true) (hm':BQ (D4 s tid)=true):A17 71 [.agg (Ah (A6 s)),.agg (Ah (Ax (e4 tid)))] [] (.tuple [.agg (Ah (A6 (D4 s tid))),.t (.int .i64 0)]) []:=by
 have hs':=hs.compl tid
 have c0:=EP s hs.t0 hs.t1 hs.t2
 have c1:=EP _ hs'.t0 hs'.t1 hs'.t2
 rw[hm]at c0
 rw[hm']at c1
 have cy:=Aba tid h1
 have co:=Ve s hs.t0 hs.t1 hs.t2
 have cv:=Ahn s hs tid h1 hp hq
 generalize D4 s tid=S' at c1 cv⊢
 refine ct0 Ag Tryz.func71 Y false Y Y ?_
 repeat'(first|exact prB|refine stA ?_|refine Cj (fun _ _ _ _=>?_)|refine stU (fun h=>?_) fun h=>?_|refine Bu (fun _ _ _ _ _=>?_)|refine Ca ?_|refine Ff Ad ?_|refine Fd Ad ?_|refine Fe Ad Y ?_|refine stN (fun b hb=>?_)|refine stL ?_ (c:=c0)|refine stL ?_ (c:=c1)|refine stL ?_ (c:=cy)|refine stL ?_ (c:=co)|refine A0 Ag [(12,1)] [(1,12)] Y Y Y Y Y cv Y Y Y Y Y ?_|fail)
 all_goals first
  |(exfalso;simp_all;done)
  |exact Ai Y (A1y Y)
end Go.Proofs.YtmohpcgmdheafaaGreatDoor
