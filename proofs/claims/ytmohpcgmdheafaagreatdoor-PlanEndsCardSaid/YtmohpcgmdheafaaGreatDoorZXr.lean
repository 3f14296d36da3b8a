/- Contracts of plans: the step that ends a transactional id, whole. -/
import Derived.Test.YtmohpcgmdheafaaGreatDoorZXq
set_option linter.unusedVariables false
set_option linter.unusedSimpArgs false
set_option maxRecDepth 100000
set_option maxHeartbeats 8000000
namespace Go.Proofs.YtmohpcgmdheafaaGreatDoor
open Go.Am
attribute [local irreducible] Decidable.decide Tr A2 hSK hSW
def CB (pid:Int) (yes:Bool) (s:Step) (q:Int):Step:=⟨s.w++(End s.i.tag q (AX s.i q) pid yes).w,UE s.i q (End s.i.tag q (AX s.i q) pid yes).part⟩
def Dr (pid:Int) (yes:Bool) (s:Step) (l:List Int):Step:=l.foldl (CB pid yes) s
theorem Gm (pid:Int) (yes:Bool) (s:Step) (l:List Int) (q:Int):Dr pid yes s (l++[q])=CB pid yes (Dr pid yes s l) q:=by simp[Dr]
structure EndsOk (pid:Int) (yes:Bool) (s:Step) (l:List Int):Prop where
 len:l.length<=1000000
 small: ∀k,k<=l.length->SmallI (Dr pid yes s (l.take k)).i
 good: ∀k q,l[k]?=some q->(q=0\/q=1\/q=2)/\(End (Dr pid yes s (l.take k)).i.tag q (AX (Dr pid yes s (l.take k)).i q) pid yes).e=0
 wlen: ∀k,k<=l.length->(Dr pid yes s (l.take k)).w.length<=1000000
theorem SmallI.part {i:Image} (h:SmallI i) (q:Int):AR (AX i q):=by
 unfold AX;repeat' split
 ·exact h.p0
 ·exact h.p1
 ·exact h.p2
theorem SmallI.m {i:Image} (h:SmallI i):SmallM i.m:=⟨h.t0,h.t1,h.t2⟩
theorem YT (i:Image) (ht:i.tag=0\/i.tag=1) (hs:SmallI i) (tid:Int) (yes:Bool) (thn:Int) (h1:0<=tid/\tid<3) (h2:(0<=thn/\thn<=20)/\(yes=true->thn=0))
  (hp:Cb (Av i.m tid) yes thn=0) (hm:BQ i.m=true) (hm':BQ (AO i.m tid (C9 (Av i.m tid) yes thn))=true)
  (S:List Int->Step) (hS:S=Dr (Av i.m tid).pid yes ⟨Cy i.tag (mb3 tid yes thn),EC i (AO i.m tid (C9 (Av i.m tid) yes thn))⟩)
  (hE:EndsOk (Av i.m tid).pid yes ⟨Cy i.tag (mb3 tid yes thn),EC i (AO i.m tid (C9 (Av i.m tid) yes thn))⟩ (Av i.m tid).parts)
  (J:Step) (hJ:J=S (Av i.m tid).parts) (htJ:J.i.tag=i.tag) (hp4:DH (Av J.i.m tid)=0) (hq4:(Av J.i.m tid).pends.all Cc=true) (hm4:BQ J.i.m=true) (hm4':BQ (D4 J.i.m tid)=true)
  (K:Image) (hK:K=EC J.i (D4 J.i.m tid)) (hKs:SmallI K) (hKp:PlaceOk K):
  A17 15 [.agg (Ah (A1 i)),.t (.int .i64 tid),.t (.bool yes),.t (.int .i64 thn)] [] (.tuple [.agg (Ah (Di ⟨J.w++Cy i.tag (mb4 tid),BH K (pl0 K) (pl1 K) (pl2 K)⟩)),.t .nilIface]) []:=by
 have c3:A17 35 [.ref 1 0,.agg (Ah (Ac8 3 tid yes thn))] _ _ _:=(UT i ht hs.m tid yes thn h1 h2 hp hm hm').args ⟨A1x _,QW tid yes thn,trivial⟩
 have hJs:SmallI J.i:=by rw[hJ,hS];have:=hE.small _ (Nat.le_refl _);rwa[List.take_of_length_le (Nat.le_refl _)]at this
 have c4:A17 35 [.ref 1 0,.agg (Ah (Ac8 4 tid false 0))] _ _ _:=(US J.i (by rw[htJ];exact ht) hJs.m tid h1 hp4 hq4 hm4 hm4').args ⟨A1x _,QV tid,trivial⟩
 rw[<-hK,htJ]at c4
 have cs:=L6 K (J.w++Cy i.tag (mb4 tid)) hKs hKp
 rw[List.map_append]at cs
 have cc:=IE (Av i.m tid).parts hE.len
 obtain⟨hlen,hsm,hgd,hwl⟩:=hE
 rw[<-hS]at hsm hgd hwl
 have hJw:J.w.length<=1000000:=by rw[hJ];have:=hwl _ (Nat.le_refl _);rwa[List.take_of_length_le (Nat.le_refl _)]at this
 obtain⟨a,b,hab⟩: ∃a b,Cy i.tag (mb4 tid)=[a,b]:=⟨_,_,Y⟩
 rw[hab]at c4 cs⊢
 clear hab hp hm hm' hp4 hq4 hm4 hm4' hK hKs hKp hJs htJ
 obtain⟨C,hC⟩: ∃C,C=Av i.m tid:=⟨_,Y⟩
 obtain⟨T,hT⟩: ∃T,T=tid:=⟨_,Y⟩
 rw[<-hT]at c4
 rw[<-hC]at hlen hsm hgd hwl hJ
 have hlm:(C.parts.map Bz).length=C.parts.length:=List.length_map ..
 have hS2:S []=⟨Cy i.tag (mb3 tid yes thn),EC i (AO i.m tid (C9 (Av i.m tid) yes thn))⟩:=by rw[hS];rfl
 have hS3: ∀l q,S (l++[q])=CB C.pid yes (S l) q:=by intro l q;rw[hS,hC];exact Gm ..
 clear hS
 rcases BB h1 with rfl|rfl|rfl
 all_goals
  refine ct0 Ag Tryz.func15 Y false Y Y ?_
  repeat'(first|exact prB|refine stC ?_|refine stU (fun h=>?_) fun h=>?_|refine stN (fun b hb=>?_)|refine stE 1 13 ?_|refine stE 8 17 ?_|refine stE 17 7 ?_|refine stL ?_ (c:=cc)|refine stM ?_ (c:=cc)|refine A0 Ag [(8,1)] [(58,152),(1,8)] Y Y Y Y Y c3 Y Y Y Y Y ?_|fail)
  refine A3 (ι:=Nat) (fun k=>k<=C.parts.length) (fun k=>[(1,.t (.int .i64 T)),(2,.t (.bool yes)),(4,.ref 8 0),(8,.ref 16 0),(10,.t (.int .i64 C.pid)),(12,.row 152 4 0 ((S (C.parts.take k)).w.map AF).length),(45,.t (.slice .any 1 (C.parts.map Bz))),(46,.t (.int .i64 ((C.parts.map Bz).length:Int))),(47,.t (.int .i64 k))]) (fun k=>[(152,.grow 4 ((S (C.parts.take k)).w.map AF)),(8,.cells (Ah (A1 (S (C.parts.take k)).i))),(16,.cells (Ah Yu.zero))]) (fun k=>C.parts.length-k) 0 Ac ?_ ?_
  ·rw[List.take_zero,hS2]
   subst hC;subst hT
   exact AE [] (Af Y Y (Af Y Y (Af Y Y (Af Y Y (Af Y Y (Af Y Y (Af Y Y (Af Y Y (Af Y Y Aj))))))))) Y
  ·rintro k hk
   clear c3 cc hC hT h1 hS2
   by_cases hlt:k<C.parts.length
   ·have hr:C.parts[k]?=some C.parts[k]:=List.getElem?_eq_getElem hlt
    have hsk:=hsm k (Nat.le_of_lt hlt)
    have hwk:=hwl k (Nat.le_of_lt hlt)
    obtain⟨hq,hgk⟩:=hgd k _ hr
    have ht2:S (C.parts.take (k+1))=CB C.pid yes (S (C.parts.take k)) C.parts[k]:=by rw[A5 hr];exact hS3 ..
    have hwk1:=hwl (k+1) hlt
    rw[ht2]at hwk1
    generalize C.parts[k]=q at hr hq hgk ht2 hwk1
    generalize S (C.parts.take k)=s at hsk hwk hgk ht2 hwk1
    have cE:=Atr s.i.tag q (AX s.i q) C.pid yes (hsk.part q)
    unfold EO.av at cE
    rw[hgk]at cE
    simp only[CB]at ht2 hwk1
    generalize End s.i.tag q (AX s.i q) C.pid yes=E at cE ht2 hwk1
    rw[List.length_append]at hwk1
    clear hsm hgd hwl hS3 c4 cs
    rcases hq with rfl|rfl|rfl
    all_goals
     repeat'(first|exact prB|refine stC ?_|refine stU (fun h=>?_) fun h=>?_|refine stN (fun b hb=>?_)|refine stE 1 13 ?_|refine stE 17 7 ?_|refine stM ?_ (c:=cE)|refine stL ?_ (c:=cE)|refine BC (id:=8) (m:=17) (ms:=[0,1,0,0,0,24,56,0,0,511,1023,2047,2047,2047,0,20479,57343,131071]) Ag [(15,32)] Ab Y Y Y Y Ab Ab ?_|fail)
     all_goals first
      |(refine Ay (k+1) hlt Aa [14,16] (Af Y Y (Af Y Y (Af Y Y (Af Y Y (Af Y Y (Af Y ?_ (Af Y Y (Af Y Y (Af Y (by rw[An Aa Aa];rfl) Aj))))))))) ?_
        all_goals(rw[ht2];(try simp only[List.map_append]);rfl))
   ·have htk:C.parts.take k=C.parts:=List.take_of_length_le Aa
    rw[htk,show S C.parts=J from hJ.symm]
    clear hsm hgd hwl hS3
    have hfz:B5 152 4 (J.w.map AF++[a,b].map AF) (.row 152 4 0 (J.w.map AF++[a,b].map AF).length)=.t (.slice .any 4 (J.w.map AF++[a,b].map AF)):=GD _ _ _ _ Y
    repeat'(first|exact prB|refine A16 162 Y ?_|refine stC ?_|refine stU (fun h=>?_) fun h=>?_|refine stN (fun b hb=>?_)|refine stE 1 13 ?_|refine stE 8 17 ?_|refine stL ?_ (c:=cs)|refine A0 Ag [(8,1)] [(58,162),(1,8)] Y Y Y Y Y c4 Y Y Y Y Y ?_|refine GK Ag [1,2] 7 Ab Y Y (by rintro ch e s ⟨hx,_⟩;rcases hx with hx|hx<;>cases hx) ?_|refine LD Y ?_|refine CR Y Y ?_|refine E5 Y Y Y ?_ ?_|refine Ut Y Y Y Y ?_ ?_ ?_|refine BF 91 152 Y Y Y hfz ?_|fail)
    all_goals first
     |exact Ai Y (A1y Y)
end Go.Proofs.YtmohpcgmdheafaaGreatDoor
