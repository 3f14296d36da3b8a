/- Contracts and laws, joined: Xm, Wh. No condition beside those that each theorem names. -/
import Derived.Test.YtmohpcgmdheafaaGreatDoorZK13
set_option linter.unusedVariables false
set_option linter.unusedSimpArgs false
set_option maxRecDepth 100000
set_option maxHeartbeats 8000000
namespace Go.Proofs.YtmohpcgmdheafaaGreatDoor
open Go.Am
attribute [local irreducible] Decidable.decide Tr A2 hSK hSW
theorem Vw (p:Part) (hs:AR p):A17 65 [.agg (Ah (AD p))] [] (.t (.int .i64 (if Bb p=true then 0 else 2))) []:=by
 have cc:=TX p hs
 unfold enT at cc
 cases h:Bb p with
 |true=>
  rw[h,if_pos Y]at cc
  refine ct0 Ag Tryz.func65 Y false Y Y ?_
  repeat'(first|exact prB|refine stC ?_|refine stU (fun h=>?_) fun h=>?_|refine stN (fun b hb=>?_)|refine stL ?_ (c:=cc)|refine stL ?_ (c:=Z5)|fail)
  all_goals exact Ai Y (A1y Y)
 |false=>
  rw[h,if_neg Ac]at cc
  have cd:=TV (Px p) 2
  refine ct0 Ag Tryz.func65 Y false Y Y ?_
  repeat'(first|exact prB|refine stC ?_|refine stU (fun h=>?_) fun h=>?_|refine stN (fun b hb=>?_)|refine stL ?_ (c:=cc)|refine stL ?_ (c:=cd)|fail)
  all_goals exact Ai Y (A1y Y)
theorem S4 (i:Image) (hs:SmallI i):A17 29 [.agg (Ah (A1 i))] [] (.t (.bool (Bb i.p0&&(Bb i.p1&&Bb i.p2)))) []:=by
 have c0:=Vw i.p0 hs.p0
 have c1:=Vw i.p1 hs.p1
 have c2:=Vw i.p2 hs.p2
 have hw0:IntKind.i64.wrap (0+1)=1:=by decide+kernel
 have hw1:IntKind.i64.wrap (1+1)=2:=by decide+kernel
 have hw2:IntKind.i64.wrap (2+1)=3:=by decide+kernel
 generalize Bb i.p0=P0 at c0⊢
 generalize Bb i.p1=P1 at c1⊢
 generalize Bb i.p2=P2 at c2⊢
 cases P0<;>cases P1<;>cases P2
 all_goals
  simp only[if_true,if_false,Bool.false_eq_true]at c0 c1 c2
  refine ct0 Ag Tryz.func29 Y false Y Y ?_
  repeat'(first|exact prB|refine stC ?_|refine stU (fun h=>?_) fun h=>?_|refine stN (fun b hb=>?_)|refine stL ?_ (c:=c0)|refine stL ?_ (c:=c1)|refine stL ?_ (c:=c2)|refine AN 5 ?_|refine AQ ?_|rw[hw0]|rw[hw1]|rw[hw2]|fail)
  all_goals first
   |exact Ai Y (A1y Y)
theorem GN (s:MState) (pid:Int):(ofM s pid=none)\/ofM s pid=some 0\/ofM s pid=some 1\/ofM s pid=some 2:=by
 unfold ofM
 repeat' split
 all_goals simp
theorem O6 (i:Image) (c:Coord) (hc:SmallC c):A17 66 [.t (.slice .any 1 (c.parts.map Bz)),.t (.slice .any 1 ((AH i c.pid).map Bz))] [] (.t (.bool (decide (c.parts=AH i c.pid)))) []:=TR c.parts _ (by have:=hc.parts;omega)
theorem OB {α:Type} {l:List α} {f:α->Bool} {k:Nat} {x:α} (h:l[k]?=some x) (hf:f x=false):l.all f=false:=by
 cases hq:l.all f with
 |false=>rfl
 |true=>rw[List.all_eq_true.1 hq x (List.mem_of_getElem? h)]at hf;cases hf
theorem II {α:Type} {l:List α} {f:α->Bool} {k:Nat} {x:α} (h:l[k]?=some x) (ha:(l.take k).all f=true) (hf:f x=true):(l.take (k+1)).all f=true:=by
 rw[A5 h,List.all_append,ha];simp[hf]
theorem Aha (i:Image) (hs:SmallI i):A17 30 [.agg (Ah (A1 i))] [] (.t (.bool (Rp i))) []:=by
 have e0:=O6 i i.m.t0 hs.t0
 have e1:=O6 i i.m.t1 hs.t1
 have e2:=O6 i i.m.t2 hs.t2
 have w0:=Ij i i.m.t0.pid hs
 have w1:=Ij i i.m.t1.pid hs
 have w2:=Ij i i.m.t2.pid hs
 have hw0:IntKind.i64.wrap (0+1)=1:=by decide+kernel
 have hw1:IntKind.i64.wrap (1+1)=2:=by decide+kernel
 have hw2:IntKind.i64.wrap (2+1)=3:=by decide+kernel
 unfold Rp
 generalize decide (i.m.t0.parts=AH i i.m.t0.pid)=W0 at e0⊢
 generalize decide (i.m.t1.parts=AH i i.m.t1.pid)=W1 at e1⊢
 generalize decide (i.m.t2.parts=AH i i.m.t2.pid)=W2 at e2⊢
 refine ct0 Ag Tryz.func30 Y false Y Y ?_
 repeat'(first|exact prB|refine stC ?_|refine stU (fun h=>?_) fun h=>?_|refine stN (fun b hb=>?_)|refine stE 4 6 ?_|refine stE 14 11 ?_|fail)
 refine AN 5 ?_
 repeat'(first|exact prB|refine stC ?_|refine stU (fun h=>?_) fun h=>?_|refine stN (fun b hb=>?_)|refine stE 4 6 ?_|refine stE 14 11 ?_|refine stM ?_ (c:=w0)|refine stM ?_ (c:=w1)|refine stM ?_ (c:=w2)|refine stM ?_ (c:=e0)|refine stM ?_ (c:=e1)|refine stM ?_ (c:=e2)|refine stL ?_ (c:=e0)|refine stL ?_ (c:=e1)|refine stL ?_ (c:=e2)|refine stL ?_ (c:=w0)|refine stL ?_ (c:=w1)|refine stL ?_ (c:=w2)|refine AQ ?_|rw[hw0]|rw[hw1]|rw[hw2]|fail)
 all_goals try exact Ai Y (A1y (by simp_all))
 have hW:(W0&&(W1&&W2))=true:=by simp_all
 rw[hW,Bool.true_and]
 refine AN 5 ?_
 repeat'(first|exact prB|refine stC ?_|refine stU (fun h=>?_) fun h=>?_|refine stN (fun b hb=>?_)|refine stE 4 6 ?_|refine stE 14 11 ?_|refine AQ ?_|rw[hw0]|rw[hw1]|rw[hw2]|fail)
 have hlm0:(i.p0.opens.map As).length=i.p0.opens.length:=List.length_map ..
 have hl0:=hs.p0.2.1
 refine A3 (ι:=Nat) (fun k=>k<=i.p0.opens.length/\(i.p0.opens.take k).all (Dw i.m)=true) (fun k=>[(1,.ref 2 0),(27,.agg (Ah (AD i.p0++(AD i.p1++AD i.p2)))),(28,.t (.int .i64 0)),(32,.t (.slice .any 3 (i.p0.opens.map As))),(33,.t (.int .i64 ((i.p0.opens.map As).length:Int))),(34,.t (.int .i64 k))]) (fun _=>[(2,.cells (Ah (A1 i)))]) (fun k=>i.p0.opens.length-k) 0 Ac ?_ ?_
 ·exact AE [4,6,8] (Af Y Y (Af Y Y (Af Y Y (Af Y Y (Af Y Y (Af Y Y Aj)))))) Y
 rintro k0 ⟨hk0,hall0⟩
 by_cases hlt0:k0<i.p0.opens.length
 ·have hr:i.p0.opens[k0]?=some i.p0.opens[k0]:=List.getElem?_eq_getElem hlt0
  generalize i.p0.opens[k0]=o at hr
  have co:=KY i.m o.pid
  rcases GN i.m o.pid with ho|ho|ho|ho
  all_goals
   rw[ho]at co
   simp only[ofR]at co
   repeat'(first|exact prB|refine stC ?_|refine stU (fun h=>?_) fun h=>?_|refine stN (fun b hb=>?_)|refine stE 4 6 ?_|refine stE 14 11 ?_|refine stL ?_ (c:=co)|fail)
   all_goals first
    |exact Ai Y (A1y (by rw[OB hr (show Dw i.m o=false by simp_all[Dw,Av])];try simp))
    |exact Ay (k0+1) ⟨hlt0,II hr hall0 (by simp_all[Dw,Av])⟩ Aa [8] (Af Y Y (Af Y Y (Af Y Y (Af Y Y (Af Y Y (Af Y (by rw[An Aa Aa];rfl) Aj)))))) Y
 rw[List.take_of_length_le Aa]at hall0
 rw[hall0]
 try rw[Bool.true_and]
 repeat'(first|exact prB|refine stC ?_|refine stU (fun h=>?_) fun h=>?_|refine stN (fun b hb=>?_)|refine stE 4 6 ?_|refine stE 14 11 ?_|refine AQ ?_|rw[hw0]|rw[hw1]|rw[hw2]|fail)
 have hlm1:(i.p1.opens.map As).length=i.p1.opens.length:=List.length_map ..
 have hl1:=hs.p1.2.1
 refine A3 (ι:=Nat) (fun k=>k<=i.p1.opens.length/\(i.p1.opens.take k).all (Dw i.m)=true) (fun k=>[(1,.ref 2 0),(27,.agg (Ah (AD i.p0++(AD i.p1++AD i.p2)))),(28,.t (.int .i64 1)),(32,.t (.slice .any 3 (i.p1.opens.map As))),(33,.t (.int .i64 ((i.p1.opens.map As).length:Int))),(34,.t (.int .i64 k))]) (fun _=>[(2,.cells (Ah (A1 i)))]) (fun k=>i.p1.opens.length-k) 0 Ac ?_ ?_
 ·exact AE [4,6,8] (Af Y Y (Af Y Y (Af Y Y (Af Y Y (Af Y Y (Af Y Y Aj)))))) Y
 rintro k1 ⟨hk1,hall1⟩
 by_cases hlt1:k1<i.p1.opens.length
 ·have hr:i.p1.opens[k1]?=some i.p1.opens[k1]:=List.getElem?_eq_getElem hlt1
  generalize i.p1.opens[k1]=o at hr
  have co:=KY i.m o.pid
  rcases GN i.m o.pid with ho|ho|ho|ho
  all_goals
   rw[ho]at co
   simp only[ofR]at co
   repeat'(first|exact prB|refine stC ?_|refine stU (fun h=>?_) fun h=>?_|refine stN (fun b hb=>?_)|refine stE 4 6 ?_|refine stE 14 11 ?_|refine stL ?_ (c:=co)|fail)
   all_goals first
    |exact Ai Y (A1y (by rw[OB hr (show Dw i.m o=false by simp_all[Dw,Av])];try simp))
    |exact Ay (k1+1) ⟨hlt1,II hr hall1 (by simp_all[Dw,Av])⟩ Aa [8] (Af Y Y (Af Y Y (Af Y Y (Af Y Y (Af Y Y (Af Y (by rw[An Aa Aa];rfl) Aj)))))) Y
 rw[List.take_of_length_le Aa]at hall1
 rw[hall1]
 try rw[Bool.true_and]
 repeat'(first|exact prB|refine stC ?_|refine stU (fun h=>?_) fun h=>?_|refine stN (fun b hb=>?_)|refine stE 4 6 ?_|refine stE 14 11 ?_|refine AQ ?_|rw[hw0]|rw[hw1]|rw[hw2]|fail)
 have hlm2:(i.p2.opens.map As).length=i.p2.opens.length:=List.length_map ..
 have hl2:=hs.p2.2.1
 refine A3 (ι:=Nat) (fun k=>k<=i.p2.opens.length/\(i.p2.opens.take k).all (Dw i.m)=true) (fun k=>[(1,.ref 2 0),(27,.agg (Ah (AD i.p0++(AD i.p1++AD i.p2)))),(28,.t (.int .i64 2)),(32,.t (.slice .any 3 (i.p2.opens.map As))),(33,.t (.int .i64 ((i.p2.opens.map As).length:Int))),(34,.t (.int .i64 k))]) (fun _=>[(2,.cells (Ah (A1 i)))]) (fun k=>i.p2.opens.length-k) 0 Ac ?_ ?_
 ·exact AE [4,6,8] (Af Y Y (Af Y Y (Af Y Y (Af Y Y (Af Y Y (Af Y Y Aj)))))) Y
 rintro k2 ⟨hk2,hall2⟩
 by_cases hlt2:k2<i.p2.opens.length
 ·have hr:i.p2.opens[k2]?=some i.p2.opens[k2]:=List.getElem?_eq_getElem hlt2
  generalize i.p2.opens[k2]=o at hr
  have co:=KY i.m o.pid
  rcases GN i.m o.pid with ho|ho|ho|ho
  all_goals
   rw[ho]at co
   simp only[ofR]at co
   repeat'(first|exact prB|refine stC ?_|refine stU (fun h=>?_) fun h=>?_|refine stN (fun b hb=>?_)|refine stE 4 6 ?_|refine stE 14 11 ?_|refine stL ?_ (c:=co)|fail)
   all_goals first
    |exact Ai Y (A1y (by rw[OB hr (show Dw i.m o=false by simp_all[Dw,Av])];try simp))
    |exact Ay (k2+1) ⟨hlt2,II hr hall2 (by simp_all[Dw,Av])⟩ Aa [8] (Af Y Y (Af Y Y (Af Y Y (Af Y Y (Af Y Y (Af Y (by rw[An Aa Aa];rfl) Aj)))))) Y
 rw[List.take_of_length_le Aa]at hall2
 rw[hall2]
 try rw[Bool.true_and]
 repeat'(first|exact prB|refine stC ?_|refine stU (fun h=>?_) fun h=>?_|refine stN (fun b hb=>?_)|refine stE 4 6 ?_|refine stE 14 11 ?_|refine AQ ?_|rw[hw0]|rw[hw1]|rw[hw2]|fail)
 all_goals exact Ai Y (A1y Y)
theorem G9 (i:Image) (hs:SmallI i):A17 13 [.agg (Ah (A1 i))] [] (.t (.int .i64 (if C8 i=true then 0 else 2))) []:=by
 have cm:=EP i.m hs.t0 hs.t1 hs.t2
 have cp:=S4 i hs
 have co:=Aha i hs
 unfold C8
 generalize BQ i.m=M at cm⊢
 generalize(Bb i.p0&&(Bb i.p1&&Bb i.p2))=P at cp⊢
 generalize Rp i=O at co⊢
 cases M<;>cases P<;>cases O
 all_goals
  refine ct0 Ag Tryz.func13 Y false Y Y ?_
  repeat'(first|exact prB|refine stC ?_|refine stU (fun h=>?_) fun h=>?_|refine stN (fun b hb=>?_)|refine stL ?_ (c:=cm)|refine stL ?_ (c:=cp)|refine stL ?_ (c:=co)|fail)
  all_goals first
   |(exfalso;omega)
   |exact Ai Y (A1y (by simp_all))
   |exact Ai Y (A1y (by simp;omega))
theorem FV {α:Type} {l:List α} {z r:α} {i:Nat} (h:l[i]?=some r):(l.take i++List.replicate (l.length-i) z).set i r=l.take (i+1)++List.replicate (l.length-(i+1)) z:=by
 have hlt:=(List.getElem?_eq_some_iff.1 h).1
 rw[A5 h,List.set_append_right _ _ (by rw[List.length_take];exact Nat.min_le_left ..),List.length_take,Nat.min_eq_left Aa,Nat.sub_self]
 rw[show l.length-i=(l.length-(i+1))+1 by omega,List.replicate_succ,List.set_cons_zero]
 simp
theorem Gd {α:Type} {l:List α} {z:α} {i:Nat} (h:i<l.length):(l.take i++List.replicate (l.length-i) z)[i]?=some z:=by
 rw[List.getElem?_append_right (by rw[List.length_take];exact Nat.min_le_left ..),List.length_take,Nat.min_eq_left Aa,Nat.sub_self,List.getElem?_replicate,if_pos Aa]
theorem Akf (r:Row):A17 215 [.agg (Ah (A8 r))] [] (.agg (Ah (A8 r))) []:=by
 refine ct0 Ag Tryz.func215 Y false Y Y ?_
 repeat'(first|exact prB|refine stC ?_|refine stU (fun h=>?_) fun h=>?_|refine stN (fun b hb=>?_)|fail)
 exact Ai Y (A1y Y)
theorem Ae9 (l:List Row) (f:Nat) (hf: ∀r,A17 f [.agg (Ah (A8 r))] [] (.agg (Ah (A8 r))) []) (hne:l≠[]) (hl:l.length<=1000000):A17 214 [.t (.slice .any 5 (l.map A8)),.t (.func (.func f) [] [])] [] (.row 24 5 0 l.length) [(24,.grow 5 (l.map A8))]:=by
 have hlm:(l.map A8).length=l.length:=List.length_map ..
 have hpos:0<l.length:=List.length_pos_iff.2 hne
 have hcn:(((l.map A8).length:Nat):Int)=(l.length:Int):=by rw[hlm]
 have hz:l.length*(56+1)<=140737488355328:=by omega
 refine ct1 Ag Tryz.func214 Y Y ?_
 repeat'(first|exact prB|refine stB ?_|refine stU (fun h=>?_) fun h=>?_|refine stN (fun b hb=>?_)|refine Dn Ag Y Y Y Y Y Y Y hcn hcn Y Y (Nat.le_refl _) hz ?_|fail)
 ·exfalso;simp_all
 refine A3 (ι:=Nat) (fun i=>i<=l.length) (fun i=>[(1,.t (.func (.func f) [] [])),(5,.row 24 5 0 l.length),(13,.t (.slice .any 5 (l.map A8))),(14,.t (.int .i64 ((l.map A8).length:Int))),(15,.t (.int .i64 i))]) (fun i=>[(24,.grow 5 ((l.map A8).take i++List.replicate ((l.map A8).length-i) [.int .i64 0,.int .i64 0,.int .i64 0,.str [],.str []]))]) (fun i=>l.length-i) 0 Ac ?_ ?_
 ·exact AE [] (Af Y Y (Af Y Y (Af Y Y (Af Y Y (Af Y Y Aj))))) (by simp;rfl)
 rintro i hi
 by_cases hlt:i<l.length
 ·have hr:l[i]?=some l[i]:=List.getElem?_eq_getElem hlt
  generalize l[i]=r at hr
  have hc:=hf r
  have hg:((l.map A8).take i++List.replicate ((l.map A8).length-i) [.int .i64 0,.int .i64 0,.int .i64 0,.str [],.str []])[0+i]?=some [.int .i64 0,.int .i64 0,.int .i64 0,.str [],.str []]:=by rw[Nat.zero_add];exact Gd (by rw[hlm];exact hlt)
  repeat'(first|exact prB|refine stC ?_|refine stU (fun h=>?_) fun h=>?_|refine stN (fun b hb=>?_)|refine stL ?_ (c:=hc)|refine CH Ag (kc:=i) Y Y Y Y Y Y Y Y hlt Y ?_|refine FT Ag (ts:=A8 r) Y Y Y Y Y Y Y Y Y Y hg Y Y ?_|fail)
  refine Ay (i+1) hlt Aa [7] (Af Y Y (Af Y Y (Af Y Y (Af Y Y (Af Y (by rw[An Aa Aa];rfl) Aj))))) ?_
  have hsr:EL [.int .i64 0,.int .i64 0,.int .i64 0,.str [],.str []] 0 (A8 r)=A8 r:=rfl
  rw[<-FV (CL hr)];simp only[Nat.zero_add];rw[hsr];rfl
 ·repeat'(first|exact prB|refine stC ?_|refine stU (fun h=>?_) fun h=>?_|refine stN (fun b hb=>?_)|fail)
  have e:(l.map A8).take i++List.replicate ((l.map A8).length-i) [.int .i64 0,.int .i64 0,.int .i64 0,.str [],.str []]=l.map A8:=by
   rw[List.take_of_length_le Aa,show(l.map A8).length-i=0 by omega];simp
  rw[e]
  exact Ba [] Y Y Y (A1x _)
theorem Afa (f:Nat):A17 214 [.t (.slice .any 5 []),.t (.func (.func f) [] [])] [] (.t (.slice .any 5 [])) []:=by
 refine ct0 Ag Tryz.func214 Y false Y Y ?_
 repeat'(first|exact prB|refine stC ?_|refine stU (fun h=>?_) fun h=>?_|refine stN (fun b hb=>?_)|refine Dn Ag (l:=0) (cc:=0) Y Y Y Y Y Y Y Y Y Y Y Aa Aa ?_|fail)
 ·exact Ai Y Ak
 refine AN 1 ?_
 refine AQ ?_
 repeat'(first|exact prB|refine stC ?_|refine stU (fun h=>?_) fun h=>?_|refine stN (fun b hb=>?_)|fail)
 all_goals first
  |(exfalso;simp_all;done)
  |exact Ai Y (A1y Y)
  |(refine Ai Y (A1y ?_);simp[B5];done)
theorem Akd (l:List Row) (f:Nat) (hf: ∀r,A17 f [.agg (Ah (A8 r))] [] (.agg (Ah (A8 r))) []) (hl:l.length<=1000000):A17 214 [.t (.slice .any 5 (l.map A8)),.t (.func (.func f) [] [])] [] (.t (.slice .any 5 (l.map A8))) []:=by
 by_cases h:l=[]
 ·subst h;exact Afa f
 ·refine A11 (b:=24) ?_
  rw[List.length_map]
  exact Ae9 l f hf h hl
theorem Ake (l:List Row) (hl:l.length<=1000000):A17 147 [.t (.slice .any 5 (l.map A8))] [] (.t (.slice .any 5 (l.map A8))) []:=by
 have c:=Akd l _ Akf hl
 refine ct0 Ag Tryz.func147 Y false Y Y ?_
 repeat'(first|exact prB|refine stC ?_|refine stU (fun h=>?_) fun h=>?_|refine stN (fun b hb=>?_)|refine stL ?_ (c:=c)|fail)
 exact Ai Y (A1y Y)
theorem Aki (r:Rec):A17 181 [.agg (Ah (AJ r))] [] (.agg (Ah (AJ r))) []:=by
 refine ct0 Ag Tryz.func181 Y false Y Y ?_
 repeat'(first|exact prB|refine stC ?_|refine stU (fun h=>?_) fun h=>?_|refine stN (fun b hb=>?_)|fail)
 exact Ai Y (A1y Y)
theorem Afb (l:List Rec) (f:Nat) (hf: ∀r,A17 f [.agg (Ah (AJ r))] [] (.agg (Ah (AJ r))) []) (hne:l≠[]) (hl:l.length<=1000000):A17 180 [.t (.slice .any 2 (l.map AJ)),.t (.func (.func f) [] [])] [] (.row 24 2 0 l.length) [(24,.grow 2 (l.map AJ))]:=by
 have hlm:(l.map AJ).length=l.length:=List.length_map ..
 have hpos:0<l.length:=List.length_pos_iff.2 hne
 have hcn:(((l.map AJ).length:Nat):Int)=(l.length:Int):=by rw[hlm]
 have hz:l.length*(32+1)<=140737488355328:=by omega
 refine ct1 Ag Tryz.func180 Y Y ?_
 repeat'(first|exact prB|refine stB ?_|refine stU (fun h=>?_) fun h=>?_|refine stN (fun b hb=>?_)|refine Dn Ag Y Y Y Y Y Y Y hcn hcn Y Y (Nat.le_refl _) hz ?_|fail)
 ·exfalso;simp_all
 refine A3 (ι:=Nat) (fun i=>i<=l.length) (fun i=>[(1,.t (.func (.func f) [] [])),(5,.row 24 2 0 l.length),(13,.t (.slice .any 2 (l.map AJ))),(14,.t (.int .i64 ((l.map AJ).length:Int))),(15,.t (.int .i64 i))]) (fun i=>[(24,.grow 2 ((l.map AJ).take i++List.replicate ((l.map AJ).length-i) [.str [],.str []]))]) (fun i=>l.length-i) 0 Ac ?_ ?_
 ·exact AE [] (Af Y Y (Af Y Y (Af Y Y (Af Y Y (Af Y Y Aj))))) (by simp;rfl)
 rintro i hi
 by_cases hlt:i<l.length
 ·have hr:l[i]?=some l[i]:=List.getElem?_eq_getElem hlt
  generalize l[i]=r at hr
  have hc:=hf r
  have hg:((l.map AJ).take i++List.replicate ((l.map AJ).length-i) [.str [],.str []])[0+i]?=some [.str [],.str []]:=by rw[Nat.zero_add];exact Gd (by rw[hlm];exact hlt)
  repeat'(first|exact prB|refine stC ?_|refine stU (fun h=>?_) fun h=>?_|refine stN (fun b hb=>?_)|refine stL ?_ (c:=hc)|refine CH Ag (kc:=i) Y Y Y Y Y Y Y Y hlt Y ?_|refine FT Ag (ts:=AJ r) Y Y Y Y Y Y Y Y Y Y hg Y Y ?_|fail)
  refine Ay (i+1) hlt Aa [7] (Af Y Y (Af Y Y (Af Y Y (Af Y Y (Af Y (by rw[An Aa Aa];rfl) Aj))))) ?_
  have hsr:EL [.str [],.str []] 0 (AJ r)=AJ r:=rfl
  rw[<-FV (CL hr)];simp only[Nat.zero_add];rw[hsr];rfl
 ·repeat'(first|exact prB|refine stC ?_|refine stU (fun h=>?_) fun h=>?_|refine stN (fun b hb=>?_)|fail)
  have e:(l.map AJ).take i++List.replicate ((l.map AJ).length-i) [.str [],.str []]=l.map AJ:=by
   rw[List.take_of_length_le Aa,show(l.map AJ).length-i=0 by omega];simp
  rw[e]
  exact Ba [] Y Y Y (A1x _)
theorem Afc (f:Nat):A17 180 [.t (.slice .any 2 []),.t (.func (.func f) [] [])] [] (.t (.slice .any 2 [])) []:=by
 refine ct0 Ag Tryz.func180 Y false Y Y ?_
 repeat'(first|exact prB|refine stC ?_|refine stU (fun h=>?_) fun h=>?_|refine stN (fun b hb=>?_)|refine Dn Ag (l:=0) (cc:=0) Y Y Y Y Y Y Y Y Y Y Y Aa Aa ?_|fail)
 ·exact Ai Y Ak
 refine AN 1 ?_
 refine AQ ?_
 repeat'(first|exact prB|refine stC ?_|refine stU (fun h=>?_) fun h=>?_|refine stN (fun b hb=>?_)|fail)
 all_goals first
  |(exfalso;simp_all;done)
  |exact Ai Y (A1y Y)
  |(refine Ai Y (A1y ?_);simp[B5];done)
theorem Akg (l:List Rec) (f:Nat) (hf: ∀r,A17 f [.agg (Ah (AJ r))] [] (.agg (Ah (AJ r))) []) (hl:l.length<=1000000):A17 180 [.t (.slice .any 2 (l.map AJ)),.t (.func (.func f) [] [])] [] (.t (.slice .any 2 (l.map AJ))) []:=by
 by_cases h:l=[]
 ·subst h;exact Afc f
 ·refine A11 (b:=24) ?_
  rw[List.length_map]
  exact Afb l f hf h hl
theorem Akh (l:List Rec) (hl:l.length<=1000000):A17 113 [.t (.slice .any 2 (l.map AJ))] [] (.t (.slice .any 2 (l.map AJ))) []:=by
 have c:=Akg l _ Aki hl
 refine ct0 Ag Tryz.func113 Y false Y Y ?_
 repeat'(first|exact prB|refine stC ?_|refine stU (fun h=>?_) fun h=>?_|refine stN (fun b hb=>?_)|refine stL ?_ (c:=c)|fail)
 exact Ai Y (A1y Y)
theorem TN (b:Batch) (hl:b.recs.length<=1000000):A17 53 [.agg (Ah (Au b))] [] (.agg (Ah (Au b))) []:=by
 have c:=Akh b.recs hl
 refine ct0 Ag Tryz.func53 Y false Y Y ?_
 repeat'(first|exact prB|refine stC ?_|refine stU (fun h=>?_) fun h=>?_|refine stN (fun b hb=>?_)|refine stL ?_ (c:=c)|fail)
 exact Ai Y (A1y Y)
theorem Abm (r:Req) (hl:r.b.recs.length<=1000000):A17 26 [.agg (Ah (BL r))] [] (.agg (Ah (BL r))) []:=by
 have c:=TN r.b hl
 refine ct0 Ag Tryz.func26 Y false Y Y ?_
 repeat'(first|exact prB|refine stC ?_|refine stU (fun h=>?_) fun h=>?_|refine stN (fun b hb=>?_)|refine stL ?_ (c:=c)|fail)
 exact Ai Y (A1y Y)
end Go.Proofs.YtmohpcgmdheafaaGreatDoor
