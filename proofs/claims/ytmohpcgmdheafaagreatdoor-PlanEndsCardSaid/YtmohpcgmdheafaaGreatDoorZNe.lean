/- Contracts of references: what an entry does to the state; what is put for it. -/
import Derived.Test.YtmohpcgmdheafaaGreatDoorZNd
import Derived.Test.YtmohpcgmdheafaaGreatDoorZK13
set_option linter.unusedVariables false
set_option linter.unusedSimpArgs false
set_option maxRecDepth 100000
set_option maxHeartbeats 8000000
namespace Go.Proofs.YtmohpcgmdheafaaGreatDoor
open Go.Am
attribute [local irreducible] Decidable.decide Tr A2 hSK hSW
def Cu (c:Coord) (yes:Bool) (thn:Int):Coord:={c with state:=if yes=true then 3 else 4,thn:=thn}
theorem Ahk (s:MState) (hs:SmallM s) (hst:StM s) (tid:Int) (yes:Bool) (thn:Int) (h1:0<=tid/\tid<3) (hf:(0<=thn/\thn<=20)/\(yes=true->thn=0)) (hc:Bp (Av s tid)=true) (h2:(Av s tid).state=2) (hx: ¬(0<thn/\(Av s tid).epoch=100)) (hm:BQ s=true) (hst':StM (AO s tid (Cu (Av s tid) yes thn))) (hm':BQ (AO s tid (Cu (Av s tid) yes thn))=true):A17 97 [.agg (Ah (A6 s)),.agg (Ah (Ax (e3 tid yes thn)))] [] (.tuple [.agg (Ah (A6 (AO s tid (Cu (Av s tid) yes thn)))),.t (.int .i64 0)]) []:=by
 rw[HN]
 have hs':SmallM (AO s tid (Cu (Av s tid) yes thn)):=hs.set tid ⟨(hs.tid tid).parts,(hs.tid tid).pends⟩
 have c0:=Km s hs hst
 have c1:=Km _ hs' hst'
 rw[hm]at c0
 rw[hm']at c1
 have ci:=WT tid yes thn h1 hf
 have cv:=Ahq (Av s tid) (hs.tid tid) tid yes thn s.made hc h2 hf hx
 rcases BB h1 with rfl|rfl|rfl
 all_goals
  refine ct0 Ag Tryz.func97 Y false Y Y ?_
  repeat'(first|exact prB|refine stC ?_|refine stU (fun h=>?_) fun h=>?_|refine stN (fun b hb=>?_)|refine stL ?_ (c:=c0)|refine stL ?_ (c:=c1)|refine stL ?_ (c:=ci)|refine stL ?_ (c:=cv)|refine AN 2 ?_|refine AQ ?_|fail)
  all_goals first
   |(exfalso;simp_all;done)
   |exact Ai Y (A1y Y)
theorem Ahj (s:MState) (hs:SmallM s) (hst:StM s) (tid:Int) (h1:0<=tid/\tid<3) (hc:Bp (Av s tid)=true) (h34:(Av s tid).state=3\/(Av s tid).state=4) (hq:(Av s tid).pends.all Cc=true) (hm:BQ s=true) (hst':StM (D4 s tid)) (hm':BQ (D4 s tid)=true):A17 97 [.agg (Ah (A6 s)),.agg (Ah (Ax (e4 tid)))] [] (.tuple [.agg (Ah (A6 (D4 s tid))),.t (.int .i64 0)]) []:=by
 rw[Fr]
 have hs':=hs.compl tid
 have c0:=Km s hs hst
 have c1:=Km _ hs' hst'
 rw[hm]at c0
 rw[hm']at c1
 have ci:=WS tid h1
 have cv:=Ahp (Av s tid) (hs.tid tid) tid s.made hc h34
 have hpl:=(hs.tid tid).pends
 unfold D4 at c1⊢
 by_cases h3:(Av s tid).state=3
 ·rw[if_pos h3]at c1⊢
  rw[<-MC]at c1⊢
  clear hst' hm' hs' h34 hc
  obtain⟨C,hC⟩: ∃C,C=Av s tid:=⟨_,Y⟩
  obtain⟨T,hT⟩: ∃T,T=tid:=⟨_,Y⟩
  have hZ:AO (BI s (Av s tid).pends) tid (Cd (Av s tid))=AO (BI s C.pends) T (Cd C):=by rw[hC,hT]
  rw[hZ]at c1⊢
  clear hZ
  rw[<-hC]at hpl hq
  have hlm:(C.pends.map AB).length=C.pends.length:=List.length_map ..
  have h3c:C.state=3:=by rw[hC];exact h3
  rcases BB h1 with rfl|rfl|rfl
  all_goals
   simp only[Av,Int.reduceEq,if_true,if_false]at h3
   refine ct0 Ag Tryz.func97 Y false Y Y ?_
   repeat'(first|exact prB|refine stC ?_|refine stU (fun h=>?_) fun h=>?_|refine stN (fun b hb=>?_)|refine stL ?_ (c:=c0)|refine stL ?_ (c:=ci)|refine stL ?_ (c:=cv)|fail)
   all_goals try(exfalso;simp_all;done)
   refine A3 (ι:=Nat) (fun k=>k<=C.pends.length) (fun k=>[(2,.ref 4 0),(3,.ref 6 0),(4,.ref 8 0),(6,.ref 12 0),(7,.ref 14 0),(9,.t (.int .i64 k))]) (fun k=>[(14,.cells (Ah (A4 (Cd C)))),(12,.cells (Ah (A4 C))),(8,.cells (Ah Aru.zero)),(6,.cells (Ah (Ayp T))),(4,.cells (Ah (A6 (BI s (C.pends.take k)))))]) (fun k=>C.pends.length-k) 0 Ac ?_ ?_
   ·subst hC;subst hT
    exact AE [] (Af Y Y (Af Y Y (Af Y Y (Af Y Y (Af Y Y (Af Y Y Aj)))))) Y
   ·rintro k hk
    by_cases hlt:k<C.pends.length
    ·have hr:C.pends[k]?=some C.pends[k]:=List.getElem?_eq_getElem hlt
     have hin:Cc C.pends[k]=true:=List.all_eq_true.1 hq _ (List.getElem_mem hlt)
     generalize C.pends[k]=p at hr hin
     obtain⟨hg,hpt⟩:=Jk hin
     have ht:C.pends.take (k+1)=C.pends.take k++[p]:=A5 hr
     obtain⟨pg,pp,po⟩:=p
     simp only at hg hpt
     generalize hX:BI s (C.pends.take k)=X
     rcases hg with rfl|rfl<;>rcases hpt with rfl|rfl|rfl
     all_goals
      repeat'(first|exact prB|refine stC ?_|refine stU (fun h=>?_) fun h=>?_|refine stN (fun b hb=>?_)|refine stE 10 11 ?_|refine BC (id:=31) (m:=20) (ms:=[0,1,0,7,15,31,0,64,0,448,960,1984,0,4096,0,28672,61440,126976,0,262207,1048575,2097151]) Ag [(21,4)] Ab Y Y Y Y Ab Ab ?_|fail)
      all_goals first
       |(exfalso;omega)
       |(refine Ay (k+1) hlt Aa [] (Af Y Y (Af Y Y (Af Y Y (Af Y Y (Af Y Y (Af Y (by rw[An Aa Aa];rfl) Aj)))))) ?_
         rw[ht,Fk,hX];rfl)
       |(exfalso;simp_all;done)
    ·have htk:C.pends.take k=C.pends:=List.take_of_length_le Aa
     rw[htk]
     generalize hX:BI s C.pends=X at c1⊢
     clear hX cv ci c0 hC h3
     subst hT
     repeat'(first|exact prB|refine stC ?_|refine stU (fun h=>?_) fun h=>?_|refine stN (fun b hb=>?_)|refine stL ?_ (c:=c1)|fail)
     all_goals first
      |(exfalso;omega)
      |exact Ai Y (A1y Y)
      |(exfalso;simp_all;done)
 ·rw[if_neg h3]at c1⊢
  rcases BB h1 with rfl|rfl|rfl
  all_goals
   simp only[Av,Int.reduceEq,if_true,if_false]at h3 h34
   refine ct0 Ag Tryz.func97 Y false Y Y ?_
   repeat'(first|exact prB|refine stC ?_|refine stU (fun h=>?_) fun h=>?_|refine stN (fun b hb=>?_)|refine stL ?_ (c:=c0)|refine stL ?_ (c:=c1)|refine stL ?_ (c:=ci)|refine stL ?_ (c:=cv)|refine AN 2 ?_|refine AQ ?_|fail)
   all_goals first
    |exact Ai Y (A1y Y)
    |(exfalso;simp_all[Av];done)
theorem JZ (b:Bs) (n:Int) (h0:0<=n) (hn:n<=1099511627776) (hb:b.length<=1000000000):A17 232 [.t (.slice .any 1 (b.map A7)),.t (.slice .any 1 [[.int .i64 n]])] [] (.t (.slice .any 1 ((b++AY n.toNat).map A7))) []:=by
 have cn:=KU b n h0 hn hb
 have hw0:IntKind.i64.wrap (0+1)=1:=by decide+kernel
 refine ct0 Ag Tryz.func232 Y false Y Y ?_
 repeat'(first|exact prB|rw[hw0]|refine stC ?_|refine stU (fun h=>?_) fun h=>?_|refine stN (fun b hb=>?_)|refine stL ?_ (c:=cn)|refine AN 3 ?_|refine AQ ?_|fail)
 all_goals first
  |(exfalso;simp_all;done)
  |exact Ai Y (A1y Y)
theorem Aew (tid:Int) (yes:Bool) (thn:Int) (h1:0<=tid/\tid<3) (h2:(0<=thn/\thn<=20)/\(yes=true->thn=0)):A17 169 [.agg (Ah (Ax (e3 tid yes thn)))] [] (.tuple [.t (.str (mb3 tid yes thn)),.t (.int .i64 0)]) []:=by
 rw[HN]
 have cm:=WT tid yes thn h1 h2
 have l3:=Af4
 have l1:=AC (n:=tid.toNat) Aa
 have c1:=JZ [] 3 Aa Aa Ac
 have c2:=JZ (AY 3) tid h1.1 Aa Aa
 have c3:=PX (AY 3++AY tid.toNat) yes (by simp;omega)
 have c4:=JZ ((AY 3++AY tid.toNat)++Ch yes) thn h2.1.1 Aa (by simp[Ch];omega)
 have hk:IntKind.i64.wrap 3=3:=by decide+kernel
 refine ct0 Ag Tryz.func169 Y false Y Y ?_
 repeat'(first|exact prB|rw[hk]|refine stC ?_|refine stU (fun h=>?_) fun h=>?_|refine stN (fun b hb=>?_)|refine stE 21 20 ?_|refine stL ?_ (c:=cm)|refine BG Ag Y Y Y Y (c1) Y Y Y ⟨Iz,Ar,trivial⟩ ?_|refine BG Ag Y Y Y Y (c2) Y Y Y ⟨A1x _,Ar,trivial⟩ ?_|refine stL ?_ (c:=c3)|refine BG Ag Y Y Y Y (c4) Y Y Y ⟨A1x _,Ar,trivial⟩ ?_|refine Ci Ag Y Y Y Y Y Y (B8 _).symm Y ?_|fail)
 all_goals first
  |(exfalso;simp_all;done)
  |exact Ai Y (A1y Y)
theorem Aev (tid:Int) (h1:0<=tid/\tid<3):A17 169 [.agg (Ah (Ax (e4 tid)))] [] (.tuple [.t (.str (mb4 tid)),.t (.int .i64 0)]) []:=by
 rw[Fr]
 have cm:=WS tid h1
 have l3:=Af3
 have c1:=JZ [] 4 Aa Aa Ac
 have c2:=JZ (AY 4) tid h1.1 Aa Aa
 have hk:IntKind.i64.wrap 4=4:=by decide+kernel
 refine ct0 Ag Tryz.func169 Y false Y Y ?_
 repeat'(first|exact prB|rw[hk]|refine stC ?_|refine stU (fun h=>?_) fun h=>?_|refine stN (fun b hb=>?_)|refine stE 21 20 ?_|refine stL ?_ (c:=cm)|refine BG Ag Y Y Y Y (c1) Y Y Y ⟨Iz,Ar,trivial⟩ ?_|refine BG Ag Y Y Y Y (c2) Y Y Y ⟨A1x _,Ar,trivial⟩ ?_|refine Ci Ag Y Y Y Y Y Y (B8 _).symm Y ?_|fail)
 all_goals first
  |(exfalso;simp_all;done)
  |exact Ai Y (A1y Y)
theorem Adn (e:Int) (he:e=0\/e=1) (x:MEntry) (b:Bs) (hb:b.length<=1024) (hw:A17 169 [.agg (Ah (Ax x))] [] (.tuple [.t (.str b),.t (.int .i64 0)]) []):A17 98 [.t (.int .i8 e),.t (.slice .any 17 [Ax x])] [] (.tuple [.row 98 4 0 2,.t (.int .i64 0)]) [(98,.grow 4 ((Cy e b).map AF))]:=by
 have cn:=Ahu e he
 have cf:=O1 b hb
 have hw1:IntKind.i64.wrap (0+1)=1:=by decide+kernel
 refine ct1 Ag Tryz.func98 Y Y ?_
 repeat'(first|exact prB|rw[hw1]|refine stC ?_|refine stU (fun h=>?_) fun h=>?_|refine stN (fun b hb=>?_)|refine stL ?_ (c:=cn)|refine stL ?_ (c:=hw)|refine stL ?_ (c:=cf)|refine AN 3 ?_|refine AQ ?_|fail)
 all_goals first
  |(exfalso;simp_all;done)
  |exact Ba [] Y Y Y (A1x _)
end Go.Proofs.YtmohpcgmdheafaaGreatDoor
