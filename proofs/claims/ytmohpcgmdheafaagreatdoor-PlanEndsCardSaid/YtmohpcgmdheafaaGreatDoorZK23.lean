/- Contracts and laws, joined: Nk, Nl. No condition beside those that each theorem names. -/
import Derived.Test.YtmohpcgmdheafaaGreatDoorZNe
import Derived.Test.YtmohpcgmdheafaaGreatDoorZK14
import Derived.Test.YtmohpcgmdheafaaGreatDoorZXr
set_option linter.unusedVariables false
set_option linter.unusedSimpArgs false
set_option maxRecDepth 100000
set_option maxHeartbeats 8000000
namespace Go.Proofs.YtmohpcgmdheafaaGreatDoor
open Go.Am
attribute [local irreducible] Decidable.decide Tr A2 hSK hSW
theorem PJ: ∀{l:List Opn} (k:Int),(l.map Opn.pid).Pairwise (· < ·)->opB l k=l.any (fun o=>decide (o.pid=k))
 |[],k,_=>by simp[opB,opI]
 |a::r,k,hp=>by
  simp only[List.map_cons,List.pairwise_cons]at hp
  by_cases h:a.pid>=k
  ·have e:opI (a::r) k=0:=by simp[opI,List.findIdx?_cons,h]
   unfold opB
   rw[e]
   by_cases he:a.pid=k
   ·simp[he]
   ·have:r.any (fun o=>decide (o.pid=k))=false:=by
     rw[List.any_eq_false];intro x hx
     have:=hp.1 x.pid (List.mem_map_of_mem hx)
     simp;omega
    simp[he,this]
  ·have e:opI (a::r) k=opI r k+1:=by
    simp only[opI,List.findIdx?_cons,h,decide_false,Bool.false_eq_true,if_false]
    cases hf:r.findIdx? (fun x=>decide (x.pid>=k))<;>simp
   have ih:=PJ (l:=r) k hp.2
   have he: ¬a.pid=k:=by omega
   unfold opB at ih⊢
   rw[e,List.getElem?_cons_succ,ih]
   simp[he]
structure POkI (i:Image):Prop where
 p0:POk i.p0
 p1:POk i.p1
 p2:POk i.p2
theorem Nk {p:Part} (h:POk p):DO p 0=false:=by
 unfold DO
 rw[List.any_eq_false]
 intro x hx
 have:=(FK (h.ook x hx).1).1
 simp;omega
theorem LG {i:Image} (h:POkI i):AH i 0=[]:=by
 unfold AH
 rw[Nk h.p0,Nk h.p1,Nk h.p2];rfl
structure SrtI (i:Image):Prop where
 p0:(i.p0.opens.map Opn.pid).Pairwise (· < ·)
 p1:(i.p1.opens.map Opn.pid).Pairwise (· < ·)
 p2:(i.p2.opens.map Opn.pid).Pairwise (· < ·)
theorem POkI.srt {i:Image} (h:POkI i):SrtI i:=⟨Fj.1 h.p0.osrt,Fj.1 h.p1.osrt,Fj.1 h.p2.osrt⟩
theorem FA (i:Image) (pid:Int) (hs:SmallI i) (hp:SrtI i):A17 46 [.agg (Ah (A1 i)),.t (.int .i64 pid)] [] (.t (.slice .any 1 ((AH i pid).map Bz))) []:=by
 have c0:=NZ i.p0 pid hs.p0.2.1
 have c1:=NZ i.p1 pid hs.p1.2.1
 have c2:=NZ i.p2 pid hs.p2.2.1
 rw[PJ pid hp.p0]at c0
 rw[PJ pid hp.p1]at c1
 rw[PJ pid hp.p2]at c2
 rw[show(i.p0.opens.any fun o=>decide (o.pid=pid))=DO i.p0 pid from rfl]at c0
 rw[show(i.p1.opens.any fun o=>decide (o.pid=pid))=DO i.p1 pid from rfl]at c1
 rw[show(i.p2.opens.any fun o=>decide (o.pid=pid))=DO i.p2 pid from rfl]at c2
 unfold AH
 have hw0:IntKind.i64.wrap (0+1)=1:=by decide+kernel
 have hw1:IntKind.i64.wrap (1+1)=2:=by decide+kernel
 have hw2:IntKind.i64.wrap (2+1)=3:=by decide+kernel
 generalize DO i.p0 pid=H0 at c0⊢
 generalize DO i.p1 pid=H1 at c1⊢
 generalize DO i.p2 pid=H2 at c2⊢
 cases H0<;>cases H1<;>cases H2
 all_goals
  refine ct0 Ag Tryz.func46 Y false Y Y ?_
  repeat'(first|exact prB|refine stC ?_|refine stU (fun h=>?_) fun h=>?_|refine stN (fun b hb=>?_)|refine stL ?_ (c:=c0)|refine stL ?_ (c:=c1)|refine stL ?_ (c:=c2)|refine AN 5 ?_|refine AQ ?_|rw[hw0]|rw[hw1]|rw[hw2]|fail)
  all_goals first
   |exact Ai Y (A1y Y)
   |exact Ai Y Ak
def okQ (i:Image) (q:Int):Bool:=Bb (AX i q)&&(AX i q).opens.all (Dw i.m)
def okT (i:Image) (t:Int):Bool:=decide ((Av i.m t).parts=AH i (Av i.m t).pid)
theorem GU (i:Image):C8 i=(decide (i.tag=0\/i.tag=1)&&(BQ i.m&&((okQ i 0&&(okQ i 1&&okQ i 2))&&(okT i 0&&(okT i 1&&okT i 2))))):=by
 unfold C8 Rp okQ okT
 simp only[AX,Av,if_true,Int.reduceEq,if_false]
 generalize decide (i.tag=0\/i.tag=1)=a
 generalize BQ i.m=b
 generalize Bb i.p0=c0
 generalize Bb i.p1=c1
 generalize Bb i.p2=c2
 generalize decide (i.m.t0.parts=AH i i.m.t0.pid)=d0
 generalize decide (i.m.t1.parts=AH i i.m.t1.pid)=d1
 generalize decide (i.m.t2.parts=AH i i.m.t2.pid)=d2
 generalize i.p0.opens.all (Dw i.m)=e0
 generalize i.p1.opens.all (Dw i.m)=e1
 generalize i.p2.opens.all (Dw i.m)=e2
 cases a<;>cases b<;>cases c0<;>cases c1<;>cases c2<;>cases d0<;>cases d1<;>cases d2<;>cases e0<;>cases e1<;>cases e2<;>rfl
theorem Og {i:Image} {q:Int} (hq:q=0\/q=1\/q=2) (h:okQ i q=false):C8 i=false:=by
 rw[GU];rcases hq with rfl|rfl|rfl<;>simp[h]
theorem Jl {i:Image} {t:Int} (hq:t=0\/t=1\/t=2) (h:okT i t=false):C8 i=false:=by
 rw[GU];rcases hq with rfl|rfl|rfl<;>simp[h]
set_option maxHeartbeats 16000000 in
theorem ZI (i:Image) (hs:SmallI i) (hst:StM i.m):A17 18 [.agg (Ah (A1 i))] [] (.t (.int .i64 (if C8 i=true then 0 else 2))) []:=by
 have cm:=Km i.m ⟨hs.t0,hs.t1,hs.t2⟩ hst
 have hw0:IntKind.i64.wrap (0+1)=1:=by decide+kernel
 have hw1:IntKind.i64.wrap (1+1)=2:=by decide+kernel
 have hw2:IntKind.i64.wrap (2+1)=3:=by decide+kernel
 refine ct0 Ag Tryz.func18 Y false Y Y ?_
 by_cases h0:i.tag=0\/i.tag=1
 case neg=>
  have e:C8 i=false:=by rw[GU,decide_eq_false h0,Bool.false_and]
  rw[e]
  repeat'(first|exact prB|refine stC ?_|refine stU (fun h=>?_) fun h=>?_|refine stN (fun b hb=>?_)|refine stE 12 13 ?_|refine stE 13 15 ?_|refine stE 27 9 ?_|refine stL ?_ (c:=cm)|fail)
  all_goals first
   |exact Ai Y (A1y Y)
   |(exfalso;omega)
   |(exfalso;simp_all;done)
 cases hM:BQ i.m with
 |false=>
  have e:C8 i=false:=by rw[GU,hM,Bool.false_and,Bool.and_false]
  rw[e]
  rw[hM]at cm
  rcases h0 with h0|h0
  all_goals
   repeat'(first|exact prB|refine stC ?_|refine stU (fun h=>?_) fun h=>?_|refine stN (fun b hb=>?_)|refine stE 12 13 ?_|refine stE 13 15 ?_|refine stE 27 9 ?_|refine stL ?_ (c:=cm)|fail)
   all_goals first
    |exact Ai Y (A1y Y)
    |(exfalso;simp_all;done)
 |true=>
 rw[hM]at cm
 have cm2:=h0
 repeat'(first|exact prB|refine stC ?_|refine stU (fun h=>?_) fun h=>?_|refine stN (fun b hb=>?_)|refine stE 12 13 ?_|refine stE 13 15 ?_|refine stE 27 9 ?_|refine stL ?_ (c:=cm)|fail)
 all_goals try(exfalso;omega)
 all_goals try(exfalso;simp_all;done)
 all_goals
  refine A3 (ι:=Int) (fun q=>(q=0\/q=1\/q=2\/q=3)/\ ∀j,0<=j->j<q->okQ i j=true) (fun q=>[(1,.ref 2 0),(3,.t (.int .i64 q))]) (fun _=>[(2,.cells (Ah (A1 i)))]) (fun q=>(3-q).toNat) 0 ⟨.inl Y,fun j _ _=>by omega⟩ ?_ ?_
  ·exact AE [] (Af Y Y (Af Y Y Aj)) Y
  rintro q ⟨hq,hok⟩
  rcases hq with rfl|rfl|rfl|rfl
  ·have cc:=Jx i.p0 hs.p0
   cases hP:Bb i.p0 with
   |false=>
    rw[Og (q:=0) Ac (by simp[okQ,AX,hP])]
    rw[hP]at cc
    simp only[Bool.false_eq_true,if_false]at cc
    repeat'(first|exact prB|refine stC ?_|refine stU (fun h=>?_) fun h=>?_|refine stN (fun b hb=>?_)|refine stE 12 13 ?_|refine stE 13 15 ?_|refine stE 27 9 ?_|refine stL ?_ (c:=cc)|fail)
    all_goals first
     |exact Ai Y (A1y Y)
   |true=>
    rw[hP,if_pos Y]at cc
    repeat'(first|exact prB|refine stC ?_|refine stU (fun h=>?_) fun h=>?_|refine stN (fun b hb=>?_)|refine stE 12 13 ?_|refine stE 13 15 ?_|refine stE 27 9 ?_|refine stL ?_ (c:=cc)|fail)
    all_goals try(exfalso;simp_all;done)
    have hlm:(i.p0.opens.map As).length=i.p0.opens.length:=List.length_map ..
    have hl:=hs.p0.2.1
    refine A3 (ι:=Nat) (fun k=>k<=i.p0.opens.length/\(i.p0.opens.take k).all (Dw i.m)=true) (fun k=>[(1,.ref 2 0),(3,.t (.int .i64 0)),(4,.ref 8 0),(5,.t (.int .i64 k))]) (fun _=>[(8,.cells (Ah (AD i.p0))),(2,.cells (Ah (A1 i)))]) (fun k=>i.p0.opens.length-k) 0 Ac ?_ ?_
    ·exact AE [] (Af Y Y (Af Y Y (Af Y Y (Af Y Y Aj)))) Y
    rintro k ⟨hk,hall⟩
    by_cases hlt:k<i.p0.opens.length
    ·have hr:i.p0.opens[k]?=some i.p0.opens[k]:=List.getElem?_eq_getElem hlt
     generalize i.p0.opens[k]=o at hr
     have co:=Va i.m o.pid
     rcases GN i.m o.pid with ho|ho|ho|ho
     all_goals
      rw[ho]at co
      simp only[ofR]at co
      repeat'(first|exact prB|refine stC ?_|refine stU (fun h=>?_) fun h=>?_|refine stN (fun b hb=>?_)|refine stE 12 13 ?_|refine stE 13 15 ?_|refine stE 27 9 ?_|refine stL ?_ (c:=co)|refine stM ?_ (c:=co)|fail)
      all_goals first
       |exact Ai Y (A1y (by rw[Og (i:=i) (q:=0) Ac (by simp only[okQ,AX,Int.reduceEq,if_true,if_false,Bool.and_eq_false_iff];right;exact OB hr (by simp_all[Dw,Av]))];rfl))
       |exact Ay (k+1) ⟨hlt,II hr hall (by simp_all[Dw,Av])⟩ Aa [] (Af Y Y (Af Y Y (Af Y Y (Af Y (by rw[An Aa Aa];rfl) Aj)))) Y
    ·rw[List.take_of_length_le Aa]at hall
     repeat'(first|exact prB|refine stC ?_|refine stU (fun h=>?_) fun h=>?_|refine stN (fun b hb=>?_)|refine stE 12 13 ?_|refine stE 13 15 ?_|refine stE 27 9 ?_|fail)
     all_goals first
      |(exfalso;omega)
      |(refine Ay 1 ⟨by simp,fun j h1 h2=>?_⟩ Ae [4] (Af Y Y (Af Y (by rw[hw0];try rfl) Aj)) Y
        by_cases e:j=0
        ·subst e;simp only[okQ,AX,Int.reduceEq,if_true,if_false,hP,hall,Bool.and_self]
        ·exact hok j h1 Aa)
  ·have cc:=Jx i.p1 hs.p1
   cases hP:Bb i.p1 with
   |false=>
    rw[Og (q:=1) Ac (by simp[okQ,AX,hP])]
    rw[hP]at cc
    simp only[Bool.false_eq_true,if_false]at cc
    repeat'(first|exact prB|refine stC ?_|refine stU (fun h=>?_) fun h=>?_|refine stN (fun b hb=>?_)|refine stE 12 13 ?_|refine stE 13 15 ?_|refine stE 27 9 ?_|refine stL ?_ (c:=cc)|fail)
    all_goals first
     |exact Ai Y (A1y Y)
   |true=>
    rw[hP,if_pos Y]at cc
    repeat'(first|exact prB|refine stC ?_|refine stU (fun h=>?_) fun h=>?_|refine stN (fun b hb=>?_)|refine stE 12 13 ?_|refine stE 13 15 ?_|refine stE 27 9 ?_|refine stL ?_ (c:=cc)|fail)
    all_goals try(exfalso;simp_all;done)
    have hlm:(i.p1.opens.map As).length=i.p1.opens.length:=List.length_map ..
    have hl:=hs.p1.2.1
    refine A3 (ι:=Nat) (fun k=>k<=i.p1.opens.length/\(i.p1.opens.take k).all (Dw i.m)=true) (fun k=>[(1,.ref 2 0),(3,.t (.int .i64 1)),(4,.ref 8 0),(5,.t (.int .i64 k))]) (fun _=>[(8,.cells (Ah (AD i.p1))),(2,.cells (Ah (A1 i)))]) (fun k=>i.p1.opens.length-k) 0 Ac ?_ ?_
    ·exact AE [] (Af Y Y (Af Y Y (Af Y Y (Af Y Y Aj)))) Y
    rintro k ⟨hk,hall⟩
    by_cases hlt:k<i.p1.opens.length
    ·have hr:i.p1.opens[k]?=some i.p1.opens[k]:=List.getElem?_eq_getElem hlt
     generalize i.p1.opens[k]=o at hr
     have co:=Va i.m o.pid
     rcases GN i.m o.pid with ho|ho|ho|ho
     all_goals
      rw[ho]at co
      simp only[ofR]at co
      repeat'(first|exact prB|refine stC ?_|refine stU (fun h=>?_) fun h=>?_|refine stN (fun b hb=>?_)|refine stE 12 13 ?_|refine stE 13 15 ?_|refine stE 27 9 ?_|refine stL ?_ (c:=co)|refine stM ?_ (c:=co)|fail)
      all_goals first
       |exact Ai Y (A1y (by rw[Og (i:=i) (q:=1) Ac (by simp only[okQ,AX,Int.reduceEq,if_true,if_false,Bool.and_eq_false_iff];right;exact OB hr (by simp_all[Dw,Av]))];rfl))
       |exact Ay (k+1) ⟨hlt,II hr hall (by simp_all[Dw,Av])⟩ Aa [] (Af Y Y (Af Y Y (Af Y Y (Af Y (by rw[An Aa Aa];rfl) Aj)))) Y
    ·rw[List.take_of_length_le Aa]at hall
     repeat'(first|exact prB|refine stC ?_|refine stU (fun h=>?_) fun h=>?_|refine stN (fun b hb=>?_)|refine stE 12 13 ?_|refine stE 13 15 ?_|refine stE 27 9 ?_|fail)
     all_goals first
      |(exfalso;omega)
      |(refine Ay 2 ⟨by simp,fun j h1 h2=>?_⟩ Ae [4] (Af Y Y (Af Y (by rw[hw1];try rfl) Aj)) Y
        by_cases e:j=1
        ·subst e;simp only[okQ,AX,Int.reduceEq,if_true,if_false,hP,hall,Bool.and_self]
        ·exact hok j h1 Aa)
  ·have cc:=Jx i.p2 hs.p2
   cases hP:Bb i.p2 with
   |false=>
    rw[Og (q:=2) Ac (by simp[okQ,AX,hP])]
    rw[hP]at cc
    simp only[Bool.false_eq_true,if_false]at cc
    repeat'(first|exact prB|refine stC ?_|refine stU (fun h=>?_) fun h=>?_|refine stN (fun b hb=>?_)|refine stE 12 13 ?_|refine stE 13 15 ?_|refine stE 27 9 ?_|refine stL ?_ (c:=cc)|fail)
    all_goals first
     |exact Ai Y (A1y Y)
   |true=>
    rw[hP,if_pos Y]at cc
    repeat'(first|exact prB|refine stC ?_|refine stU (fun h=>?_) fun h=>?_|refine stN (fun b hb=>?_)|refine stE 12 13 ?_|refine stE 13 15 ?_|refine stE 27 9 ?_|refine stL ?_ (c:=cc)|fail)
    all_goals try(exfalso;simp_all;done)
    have hlm:(i.p2.opens.map As).length=i.p2.opens.length:=List.length_map ..
    have hl:=hs.p2.2.1
    refine A3 (ι:=Nat) (fun k=>k<=i.p2.opens.length/\(i.p2.opens.take k).all (Dw i.m)=true) (fun k=>[(1,.ref 2 0),(3,.t (.int .i64 2)),(4,.ref 8 0),(5,.t (.int .i64 k))]) (fun _=>[(8,.cells (Ah (AD i.p2))),(2,.cells (Ah (A1 i)))]) (fun k=>i.p2.opens.length-k) 0 Ac ?_ ?_
    ·exact AE [] (Af Y Y (Af Y Y (Af Y Y (Af Y Y Aj)))) Y
    rintro k ⟨hk,hall⟩
    by_cases hlt:k<i.p2.opens.length
    ·have hr:i.p2.opens[k]?=some i.p2.opens[k]:=List.getElem?_eq_getElem hlt
     generalize i.p2.opens[k]=o at hr
     have co:=Va i.m o.pid
     rcases GN i.m o.pid with ho|ho|ho|ho
     all_goals
      rw[ho]at co
      simp only[ofR]at co
      repeat'(first|exact prB|refine stC ?_|refine stU (fun h=>?_) fun h=>?_|refine stN (fun b hb=>?_)|refine stE 12 13 ?_|refine stE 13 15 ?_|refine stE 27 9 ?_|refine stL ?_ (c:=co)|refine stM ?_ (c:=co)|fail)
      all_goals first
       |exact Ai Y (A1y (by rw[Og (i:=i) (q:=2) Ac (by simp only[okQ,AX,Int.reduceEq,if_true,if_false,Bool.and_eq_false_iff];right;exact OB hr (by simp_all[Dw,Av]))];rfl))
       |exact Ay (k+1) ⟨hlt,II hr hall (by simp_all[Dw,Av])⟩ Aa [] (Af Y Y (Af Y Y (Af Y Y (Af Y (by rw[An Aa Aa];rfl) Aj)))) Y
    ·rw[List.take_of_length_le Aa]at hall
     repeat'(first|exact prB|refine stC ?_|refine stU (fun h=>?_) fun h=>?_|refine stN (fun b hb=>?_)|refine stE 12 13 ?_|refine stE 13 15 ?_|refine stE 27 9 ?_|fail)
     all_goals first
      |(exfalso;omega)
      |(refine Ay 3 ⟨by simp,fun j h1 h2=>?_⟩ Ae [4] (Af Y Y (Af Y (by rw[hw2];try rfl) Aj)) Y
        by_cases e:j=2
        ·subst e;simp only[okQ,AX,Int.reduceEq,if_true,if_false,hP,hall,Bool.and_self]
        ·exact hok j h1 Aa)
  have q0:=hok 0 Aa Aa
  have q1:=hok 1 Aa Aa
  have q2:=hok 2 Aa Aa
  have hPI:POkI i:=by
   simp only[okQ,AX,Int.reduceEq,if_true,if_false,Bool.and_eq_true]at q0 q1 q2
   exact⟨Dq.1 q0.1,Dq.1 q1.1,Dq.1 q2.1⟩
  repeat'(first|exact prB|refine stC ?_|refine stU (fun h=>?_) fun h=>?_|refine stN (fun b hb=>?_)|refine stE 12 13 ?_|refine stE 13 15 ?_|refine stE 27 9 ?_|fail)
  refine A3 (ι:=Int) (fun t=>(t=0\/t=1\/t=2\/t=3)/\ ∀j,0<=j->j<t->okT i j=true) (fun t=>[(1,.ref 2 0),(8,.t (.int .i64 t))]) (fun _=>[(2,.cells (Ah (A1 i)))]) (fun t=>(3-t).toNat) 0 ⟨.inl Y,fun j _ _=>by omega⟩ ?_ ?_
  ·exact AE [] (Af Y Y (Af Y Y Aj)) Y
  rintro t ⟨ht,hto⟩
  rcases ht with rfl|rfl|rfl|rfl
  ·have cw:=FA i i.m.t0.pid hs hPI.srt
   have hlp:(i.m.t0.parts.map Bz).length=i.m.t0.parts.length:=List.length_map ..
   have hlw:((AH i i.m.t0.pid).map Bz).length=(AH i i.m.t0.pid).length:=List.length_map ..
   have hl3:=Ck i i.m.t0.pid
   have eT:okT i 0=decide (i.m.t0.parts=AH i i.m.t0.pid):=by simp[okT,Av]
   by_cases hz:i.m.t0.pid=0
   ·have ew:AH i i.m.t0.pid=[]:=by rw[hz];exact LG hPI
    by_cases he:i.m.t0.parts=[]
    ·have hok1:okT i 0=true:=by rw[eT,ew,he];exact decide_eq_true Y
     have hl0:i.m.t0.parts.length=0:=by rw[he];rfl
     repeat'(first|exact prB|refine stC ?_|refine stU (fun h=>?_) fun h=>?_|refine stN (fun b hb=>?_)|refine stE 12 13 ?_|refine stE 13 15 ?_|refine stE 27 9 ?_|refine stL ?_ (c:=cw)|fail)
     all_goals try(exfalso;omega)
     all_goals try(exfalso;simp only[List.length_nil]at*;omega)
     refine AN 2 ?_
     repeat'(first|exact prB|refine stC ?_|refine stU (fun h=>?_) fun h=>?_|refine stN (fun b hb=>?_)|refine stE 12 13 ?_|refine stE 13 15 ?_|refine stE 27 9 ?_|refine AQ ?_|fail)
     all_goals first
      |(exfalso;omega)
      |(exfalso;simp only[List.length_nil]at*;omega)
      |(refine Ay 1 ⟨by simp,fun j h1 h2=>?_⟩ Ae [9] (Af Y Y (Af Y (by rw[hw0];try rfl) Aj)) Y
        by_cases e:j=0
        ·subst e;exact hok1
        ·exact hto j h1 Aa)
    ·have hno:okT i 0=false:=by rw[eT,ew];exact decide_eq_false he
     have hl0: ¬i.m.t0.parts.length=0:=fun x=>he (List.eq_nil_of_length_eq_zero x)
     rw[Jl (t:=0) Ac hno]
     repeat'(first|exact prB|refine stC ?_|refine stU (fun h=>?_) fun h=>?_|refine stN (fun b hb=>?_)|refine stE 12 13 ?_|refine stE 13 15 ?_|refine stE 27 9 ?_|refine stL ?_ (c:=cw)|fail)
     all_goals first
      |exact Ai Y (A1y Y)
      |(exfalso;omega)
      |(exfalso;simp only[List.length_nil]at*;omega)
   ·by_cases hle:(AH i i.m.t0.pid).length=i.m.t0.parts.length
    ·repeat'(first|exact prB|refine stC ?_|refine stU (fun h=>?_) fun h=>?_|refine stN (fun b hb=>?_)|refine stE 12 13 ?_|refine stE 13 15 ?_|refine stE 27 9 ?_|refine stL ?_ (c:=cw)|fail)
     all_goals try(exfalso;omega)
     refine A3 (ι:=Nat) (fun k=>k<=(AH i i.m.t0.pid).length/\(AH i i.m.t0.pid).take k=i.m.t0.parts.take k) (fun k=>[(1,.ref 2 0),(8,.t (.int .i64 0)),(9,.ref 18 0),(10,.t (.slice .any 1 ((AH i i.m.t0.pid).map Bz))),(11,.t (.int .i64 k))]) (fun _=>[(18,.cells (Ah (A4 i.m.t0))),(2,.cells (Ah (A1 i)))]) (fun k=>(AH i i.m.t0.pid).length-k) 0 Ac ?_ ?_
     ·exact AE [] (Af Y Y (Af Y Y (Af Y Y (Af Y Y (Af Y Y Aj))))) Y
     rintro k ⟨hk,htk⟩
     by_cases hlt:k<(AH i i.m.t0.pid).length
     ·have hr:(AH i i.m.t0.pid)[k]?=some (AH i i.m.t0.pid)[k]:=List.getElem?_eq_getElem hlt
      have hsv:i.m.t0.parts[k]?=some (i.m.t0.parts[k]' Aa):=List.getElem?_eq_getElem _
      generalize(AH i i.m.t0.pid)[k]=r at hr
      generalize i.m.t0.parts[k]' Aa=s at hsv
      by_cases hrs:r=s
      ·repeat'(first|exact prB|refine stC ?_|refine stU (fun h=>?_) fun h=>?_|refine stN (fun b hb=>?_)|refine stE 12 13 ?_|refine stE 13 15 ?_|refine stE 27 9 ?_|fail)
       all_goals first
        |(exfalso;omega)
        |(refine Ay (k+1) ⟨hlt,DV hr hsv htk hrs⟩ Aa [] (Af Y Y (Af Y Y (Af Y Y (Af Y Y (Af Y (by rw[An Aa Aa];rfl) Aj))))) Y)
      ·have hno:okT i 0=false:=by
        rw[eT];refine decide_eq_false fun e=>hrs ?_
        rw[e,hr]at hsv;cases hsv;rfl
       rw[Jl (t:=0) Ac hno]
       repeat'(first|exact prB|refine stC ?_|refine stU (fun h=>?_) fun h=>?_|refine stN (fun b hb=>?_)|refine stE 12 13 ?_|refine stE 13 15 ?_|refine stE 27 9 ?_|fail)
       all_goals first
        |(exfalso;omega)
        |exact Ai Y (A1y Y)
     ·have hok1:okT i 0=true:=by rw[eT];exact decide_eq_true (Fg hle Aa htk).symm
      repeat'(first|exact prB|refine stC ?_|refine stU (fun h=>?_) fun h=>?_|refine stN (fun b hb=>?_)|refine stE 12 13 ?_|refine stE 13 15 ?_|refine stE 27 9 ?_|fail)
      all_goals first
       |(exfalso;omega)
       |(refine Ay 1 ⟨by simp,fun j h1 h2=>?_⟩ Ae [9] (Af Y Y (Af Y (by rw[hw0];try rfl) Aj)) Y
         by_cases e:j=0
         ·subst e;exact hok1
         ·exact hto j h1 Aa)
    ·have hno:okT i 0=false:=by
      rw[eT];refine decide_eq_false fun e=>hle ?_
      rw[e]
     rw[Jl (t:=0) Ac hno]
     repeat'(first|exact prB|refine stC ?_|refine stU (fun h=>?_) fun h=>?_|refine stN (fun b hb=>?_)|refine stE 12 13 ?_|refine stE 13 15 ?_|refine stE 27 9 ?_|refine stL ?_ (c:=cw)|fail)
     all_goals first
      |exact Ai Y (A1y Y)
      |(exfalso;omega)
      |(exfalso;simp only[List.length_nil]at*;omega)
  ·have cw:=FA i i.m.t1.pid hs hPI.srt
   have hlp:(i.m.t1.parts.map Bz).length=i.m.t1.parts.length:=List.length_map ..
   have hlw:((AH i i.m.t1.pid).map Bz).length=(AH i i.m.t1.pid).length:=List.length_map ..
   have hl3:=Ck i i.m.t1.pid
   have eT:okT i 1=decide (i.m.t1.parts=AH i i.m.t1.pid):=by simp[okT,Av]
   by_cases hz:i.m.t1.pid=0
   ·have ew:AH i i.m.t1.pid=[]:=by rw[hz];exact LG hPI
    by_cases he:i.m.t1.parts=[]
    ·have hok1:okT i 1=true:=by rw[eT,ew,he];exact decide_eq_true Y
     have hl0:i.m.t1.parts.length=0:=by rw[he];rfl
     repeat'(first|exact prB|refine stC ?_|refine stU (fun h=>?_) fun h=>?_|refine stN (fun b hb=>?_)|refine stE 12 13 ?_|refine stE 13 15 ?_|refine stE 27 9 ?_|refine stL ?_ (c:=cw)|fail)
     all_goals try(exfalso;omega)
     all_goals try(exfalso;simp only[List.length_nil]at*;omega)
     refine AN 2 ?_
     repeat'(first|exact prB|refine stC ?_|refine stU (fun h=>?_) fun h=>?_|refine stN (fun b hb=>?_)|refine stE 12 13 ?_|refine stE 13 15 ?_|refine stE 27 9 ?_|refine AQ ?_|fail)
     all_goals first
      |(exfalso;omega)
      |(exfalso;simp only[List.length_nil]at*;omega)
      |(refine Ay 2 ⟨by simp,fun j h1 h2=>?_⟩ Ae [9] (Af Y Y (Af Y (by rw[hw1];try rfl) Aj)) Y
        by_cases e:j=1
        ·subst e;exact hok1
        ·exact hto j h1 Aa)
    ·have hno:okT i 1=false:=by rw[eT,ew];exact decide_eq_false he
     have hl0: ¬i.m.t1.parts.length=0:=fun x=>he (List.eq_nil_of_length_eq_zero x)
     rw[Jl (t:=1) Ac hno]
     repeat'(first|exact prB|refine stC ?_|refine stU (fun h=>?_) fun h=>?_|refine stN (fun b hb=>?_)|refine stE 12 13 ?_|refine stE 13 15 ?_|refine stE 27 9 ?_|refine stL ?_ (c:=cw)|fail)
     all_goals first
      |exact Ai Y (A1y Y)
      |(exfalso;omega)
      |(exfalso;simp only[List.length_nil]at*;omega)
   ·by_cases hle:(AH i i.m.t1.pid).length=i.m.t1.parts.length
    ·repeat'(first|exact prB|refine stC ?_|refine stU (fun h=>?_) fun h=>?_|refine stN (fun b hb=>?_)|refine stE 12 13 ?_|refine stE 13 15 ?_|refine stE 27 9 ?_|refine stL ?_ (c:=cw)|fail)
     all_goals try(exfalso;omega)
     refine A3 (ι:=Nat) (fun k=>k<=(AH i i.m.t1.pid).length/\(AH i i.m.t1.pid).take k=i.m.t1.parts.take k) (fun k=>[(1,.ref 2 0),(8,.t (.int .i64 1)),(9,.ref 18 0),(10,.t (.slice .any 1 ((AH i i.m.t1.pid).map Bz))),(11,.t (.int .i64 k))]) (fun _=>[(18,.cells (Ah (A4 i.m.t1))),(2,.cells (Ah (A1 i)))]) (fun k=>(AH i i.m.t1.pid).length-k) 0 Ac ?_ ?_
     ·exact AE [] (Af Y Y (Af Y Y (Af Y Y (Af Y Y (Af Y Y Aj))))) Y
     rintro k ⟨hk,htk⟩
     by_cases hlt:k<(AH i i.m.t1.pid).length
     ·have hr:(AH i i.m.t1.pid)[k]?=some (AH i i.m.t1.pid)[k]:=List.getElem?_eq_getElem hlt
      have hsv:i.m.t1.parts[k]?=some (i.m.t1.parts[k]' Aa):=List.getElem?_eq_getElem _
      generalize(AH i i.m.t1.pid)[k]=r at hr
      generalize i.m.t1.parts[k]' Aa=s at hsv
      by_cases hrs:r=s
      ·repeat'(first|exact prB|refine stC ?_|refine stU (fun h=>?_) fun h=>?_|refine stN (fun b hb=>?_)|refine stE 12 13 ?_|refine stE 13 15 ?_|refine stE 27 9 ?_|fail)
       all_goals first
        |(exfalso;omega)
        |(refine Ay (k+1) ⟨hlt,DV hr hsv htk hrs⟩ Aa [] (Af Y Y (Af Y Y (Af Y Y (Af Y Y (Af Y (by rw[An Aa Aa];rfl) Aj))))) Y)
      ·have hno:okT i 1=false:=by
        rw[eT];refine decide_eq_false fun e=>hrs ?_
        rw[e,hr]at hsv;cases hsv;rfl
       rw[Jl (t:=1) Ac hno]
       repeat'(first|exact prB|refine stC ?_|refine stU (fun h=>?_) fun h=>?_|refine stN (fun b hb=>?_)|refine stE 12 13 ?_|refine stE 13 15 ?_|refine stE 27 9 ?_|fail)
       all_goals first
        |(exfalso;omega)
        |exact Ai Y (A1y Y)
     ·have hok1:okT i 1=true:=by rw[eT];exact decide_eq_true (Fg hle Aa htk).symm
      repeat'(first|exact prB|refine stC ?_|refine stU (fun h=>?_) fun h=>?_|refine stN (fun b hb=>?_)|refine stE 12 13 ?_|refine stE 13 15 ?_|refine stE 27 9 ?_|fail)
      all_goals first
       |(exfalso;omega)
       |(refine Ay 2 ⟨by simp,fun j h1 h2=>?_⟩ Ae [9] (Af Y Y (Af Y (by rw[hw1];try rfl) Aj)) Y
         by_cases e:j=1
         ·subst e;exact hok1
         ·exact hto j h1 Aa)
    ·have hno:okT i 1=false:=by
      rw[eT];refine decide_eq_false fun e=>hle ?_
      rw[e]
     rw[Jl (t:=1) Ac hno]
     repeat'(first|exact prB|refine stC ?_|refine stU (fun h=>?_) fun h=>?_|refine stN (fun b hb=>?_)|refine stE 12 13 ?_|refine stE 13 15 ?_|refine stE 27 9 ?_|refine stL ?_ (c:=cw)|fail)
     all_goals first
      |exact Ai Y (A1y Y)
      |(exfalso;omega)
      |(exfalso;simp only[List.length_nil]at*;omega)
  ·have cw:=FA i i.m.t2.pid hs hPI.srt
   have hlp:(i.m.t2.parts.map Bz).length=i.m.t2.parts.length:=List.length_map ..
   have hlw:((AH i i.m.t2.pid).map Bz).length=(AH i i.m.t2.pid).length:=List.length_map ..
   have hl3:=Ck i i.m.t2.pid
   have eT:okT i 2=decide (i.m.t2.parts=AH i i.m.t2.pid):=by simp[okT,Av]
   by_cases hz:i.m.t2.pid=0
   ·have ew:AH i i.m.t2.pid=[]:=by rw[hz];exact LG hPI
    by_cases he:i.m.t2.parts=[]
    ·have hok1:okT i 2=true:=by rw[eT,ew,he];exact decide_eq_true Y
     have hl0:i.m.t2.parts.length=0:=by rw[he];rfl
     repeat'(first|exact prB|refine stC ?_|refine stU (fun h=>?_) fun h=>?_|refine stN (fun b hb=>?_)|refine stE 12 13 ?_|refine stE 13 15 ?_|refine stE 27 9 ?_|refine stL ?_ (c:=cw)|fail)
     all_goals try(exfalso;omega)
     all_goals try(exfalso;simp only[List.length_nil]at*;omega)
     refine AN 2 ?_
     repeat'(first|exact prB|refine stC ?_|refine stU (fun h=>?_) fun h=>?_|refine stN (fun b hb=>?_)|refine stE 12 13 ?_|refine stE 13 15 ?_|refine stE 27 9 ?_|refine AQ ?_|fail)
     all_goals first
      |(exfalso;omega)
      |(exfalso;simp only[List.length_nil]at*;omega)
      |(refine Ay 3 ⟨by simp,fun j h1 h2=>?_⟩ Ae [9] (Af Y Y (Af Y (by rw[hw2];try rfl) Aj)) Y
        by_cases e:j=2
        ·subst e;exact hok1
        ·exact hto j h1 Aa)
    ·have hno:okT i 2=false:=by rw[eT,ew];exact decide_eq_false he
     have hl0: ¬i.m.t2.parts.length=0:=fun x=>he (List.eq_nil_of_length_eq_zero x)
     rw[Jl (t:=2) Ac hno]
     repeat'(first|exact prB|refine stC ?_|refine stU (fun h=>?_) fun h=>?_|refine stN (fun b hb=>?_)|refine stE 12 13 ?_|refine stE 13 15 ?_|refine stE 27 9 ?_|refine stL ?_ (c:=cw)|fail)
     all_goals first
      |exact Ai Y (A1y Y)
      |(exfalso;omega)
      |(exfalso;simp only[List.length_nil]at*;omega)
   ·by_cases hle:(AH i i.m.t2.pid).length=i.m.t2.parts.length
    ·repeat'(first|exact prB|refine stC ?_|refine stU (fun h=>?_) fun h=>?_|refine stN (fun b hb=>?_)|refine stE 12 13 ?_|refine stE 13 15 ?_|refine stE 27 9 ?_|refine stL ?_ (c:=cw)|fail)
     all_goals try(exfalso;omega)
     refine A3 (ι:=Nat) (fun k=>k<=(AH i i.m.t2.pid).length/\(AH i i.m.t2.pid).take k=i.m.t2.parts.take k) (fun k=>[(1,.ref 2 0),(8,.t (.int .i64 2)),(9,.ref 18 0),(10,.t (.slice .any 1 ((AH i i.m.t2.pid).map Bz))),(11,.t (.int .i64 k))]) (fun _=>[(18,.cells (Ah (A4 i.m.t2))),(2,.cells (Ah (A1 i)))]) (fun k=>(AH i i.m.t2.pid).length-k) 0 Ac ?_ ?_
     ·exact AE [] (Af Y Y (Af Y Y (Af Y Y (Af Y Y (Af Y Y Aj))))) Y
     rintro k ⟨hk,htk⟩
     by_cases hlt:k<(AH i i.m.t2.pid).length
     ·have hr:(AH i i.m.t2.pid)[k]?=some (AH i i.m.t2.pid)[k]:=List.getElem?_eq_getElem hlt
      have hsv:i.m.t2.parts[k]?=some (i.m.t2.parts[k]' Aa):=List.getElem?_eq_getElem _
      generalize(AH i i.m.t2.pid)[k]=r at hr
      generalize i.m.t2.parts[k]' Aa=s at hsv
      by_cases hrs:r=s
      ·repeat'(first|exact prB|refine stC ?_|refine stU (fun h=>?_) fun h=>?_|refine stN (fun b hb=>?_)|refine stE 12 13 ?_|refine stE 13 15 ?_|refine stE 27 9 ?_|fail)
       all_goals first
        |(exfalso;omega)
        |(refine Ay (k+1) ⟨hlt,DV hr hsv htk hrs⟩ Aa [] (Af Y Y (Af Y Y (Af Y Y (Af Y Y (Af Y (by rw[An Aa Aa];rfl) Aj))))) Y)
      ·have hno:okT i 2=false:=by
        rw[eT];refine decide_eq_false fun e=>hrs ?_
        rw[e,hr]at hsv;cases hsv;rfl
       rw[Jl (t:=2) Ac hno]
       repeat'(first|exact prB|refine stC ?_|refine stU (fun h=>?_) fun h=>?_|refine stN (fun b hb=>?_)|refine stE 12 13 ?_|refine stE 13 15 ?_|refine stE 27 9 ?_|fail)
       all_goals first
        |(exfalso;omega)
        |exact Ai Y (A1y Y)
     ·have hok1:okT i 2=true:=by rw[eT];exact decide_eq_true (Fg hle Aa htk).symm
      repeat'(first|exact prB|refine stC ?_|refine stU (fun h=>?_) fun h=>?_|refine stN (fun b hb=>?_)|refine stE 12 13 ?_|refine stE 13 15 ?_|refine stE 27 9 ?_|fail)
      all_goals first
       |(exfalso;omega)
       |(refine Ay 3 ⟨by simp,fun j h1 h2=>?_⟩ Ae [9] (Af Y Y (Af Y (by rw[hw2];try rfl) Aj)) Y
         by_cases e:j=2
         ·subst e;exact hok1
         ·exact hto j h1 Aa)
    ·have hno:okT i 2=false:=by
      rw[eT];refine decide_eq_false fun e=>hle ?_
      rw[e]
     rw[Jl (t:=2) Ac hno]
     repeat'(first|exact prB|refine stC ?_|refine stU (fun h=>?_) fun h=>?_|refine stN (fun b hb=>?_)|refine stE 12 13 ?_|refine stE 13 15 ?_|refine stE 27 9 ?_|refine stL ?_ (c:=cw)|fail)
     all_goals first
      |exact Ai Y (A1y Y)
      |(exfalso;omega)
      |(exfalso;simp only[List.length_nil]at*;omega)
  have t0:=hto 0 Aa Aa
  have t1:=hto 1 Aa Aa
  have t2:=hto 2 Aa Aa
  have e:C8 i=true:=by rw[GU,decide_eq_true h0,hM,q0,q1,q2,t0,t1,t2];rfl
  rw[e]
  repeat'(first|exact prB|refine stC ?_|refine stU (fun h=>?_) fun h=>?_|refine stN (fun b hb=>?_)|refine stE 12 13 ?_|refine stE 13 15 ?_|refine stE 27 9 ?_|fail)
  all_goals first
   |(exfalso;omega)
   |exact Ai Y (A1y Y)
theorem UX {c:Coord} {l:List Int} (hm:Bp c=true) (h0: ¬0<c.pid) (hp:Fq c l=0):Ed c l=c:=by
 have hs:c.state=0:=by
  refine Classical.byContradiction fun h=>?_
  have:=(DY (D2 hm h)).1.1
  omega
 have hc:c=BD:=by
  unfold Bp at hm
  rw[if_pos hs]at hm
  exact of_decide_eq_true hm
 have hl:l=[]:=by
  unfold Fq at hp
  split at hp
  ·cases hp
  ·rename_i h
   refine Classical.byContradiction fun hne=>?_
   rw[if_pos ⟨hs,hne⟩]at hp
   cases hp
 unfold Ed
 rw[hp]
 subst hc hl
 rfl
theorem YV {c:Coord} (hm:Bp c=true) (h0:0<c.pid):c.state≠0:=by
 intro hs
 unfold Bp at hm
 rw[if_pos hs]at hm
 have:=of_decide_eq_true hm
 rw[this]at h0
 exact absurd h0 Ae
def A0z (i:Image) (t:Int):Image:=if t=0 then i else if t=1 then BH i (pl0 i) i.m.t1 i.m.t2 else if t=2 then BH i (pl0 i) (pl1 i) i.m.t2 else BH i (pl0 i) (pl1 i) (pl2 i)
structure MayT (s:MState):Prop where
 t0:Bp s.t0=true
 t1:Bp s.t1=true
 t2:Bp s.t2=true
theorem G4 (i:Image) (pid:Int):BR (AH i pid)=true:=by
 unfold AH
 cases DO i.p0 pid<;>cases DO i.p1 pid<;>cases DO i.p2 pid<;>decide+kernel
theorem W3 (i:Image) (hs:SmallI i) (hst:StM i.m) (hpo:SrtI i) (hm:MayT i.m) (hp:PlaceOk i):A17 49 [.agg (Ah (A1 i))] [] (.agg (Ah (A1 (BH i (pl0 i) (pl1 i) (pl2 i))))) []:=by
 have hw0:IntKind.i64.wrap (0+1)=1:=by decide+kernel
 have hw1:IntKind.i64.wrap (1+1)=2:=by decide+kernel
 have hw2:IntKind.i64.wrap (2+1)=3:=by decide+kernel
 have s0:SmallI (BH i (pl0 i) i.m.t1 i.m.t2):=⟨hs.p0,hs.p1,hs.p2,IX hs.t0 _ (by have:=Ck i i.m.t0.pid;omega),hs.t1,hs.t2⟩
 have s1:SmallI (BH i (pl0 i) (pl1 i) i.m.t2):=⟨hs.p0,hs.p1,hs.p2,s0.t0,IX hs.t1 _ (by have:=Ck i i.m.t1.pid;omega),hs.t2⟩
 refine ct0 Ag Tryz.func49 Y false Y Y ?_
 repeat'(first|exact prB|refine stC ?_|refine stU (fun h=>?_) fun h=>?_|refine stN (fun b hb=>?_)|refine stE 6 10 ?_|fail)
 refine A3 (ι:=Int) (fun t=>t=0\/t=1\/t=2\/t=3) (fun t=>[(1,.ref 2 0),(2,.ref 4 0),(3,.t (.int .i64 t))]) (fun t=>[(4,.cells (Ah Yv.zero)),(2,.cells (Ah (A1 (A0z i t))))]) (fun t=>(3-t).toNat) 0 (.inl Y) ?_ ?_
 ·exact AE [] (Af Y Y (Af Y Y (Af Y Y Aj))) Y
 rintro t (rfl|rfl|rfl|rfl)
 ·show Tr _ _ _ _ [(4,.cells (Ah Yv.zero)),(2,.cells (Ah (A1 i)))] _
  have cw:=FA i i.m.t0.pid hs hpo
  by_cases h:0<i.m.t0.pid
  ·have cp:=LY i.m.t0 hs.t0 hst.t0 (AH i i.m.t0.pid) (by have:=Ck i i.m.t0.pid;omega) hm.t0 (G4 ..) (YV hm.t0 h)
   repeat'(first|exact prB|refine stC ?_|refine stU (fun h=>?_) fun h=>?_|refine stN (fun b hb=>?_)|refine stM ?_ (c:=cw)|refine stM ?_ (c:=cp)|refine stL ?_ (c:=cw)|refine stL ?_ (c:=cp)|refine BC (id:=6) (m:=10) (ms:=[0,0,0,4,14,31,63,127,127,255]) Ag [(9,8)] Ab Y Y Y Y Ab Ab ?_|fail)
   all_goals first
    |(exfalso;omega)
    |exact Ay 1 Ac Ae [4] (Af Y Y (Af Y Y (Af Y (by rw[hw0];try rfl) Aj))) Y
  ·have e:pl0 i=i.m.t0:=UX hm.t0 h hp.e0
   repeat'(first|exact prB|refine stC ?_|refine stU (fun h=>?_) fun h=>?_|refine stN (fun b hb=>?_)|refine stM ?_ (c:=cw)|refine stL ?_ (c:=cw)|fail)
   all_goals first
    |(exfalso;omega)
    |(refine Ay 1 Ac Ae [4] (Af Y Y (Af Y Y (Af Y (by rw[hw0];try rfl) Aj))) ?_
      show _=[(4,_),(2,Blk.cells (Ah (A1 (BH i (pl0 i) i.m.t1 i.m.t2))))]
      rw[e];rfl)
 ·show Tr _ _ _ _ [(4,.cells (Ah Yv.zero)),(2,.cells (Ah (A1 (BH i (pl0 i) i.m.t1 i.m.t2))))] _
  have cw:=FA (BH i (pl0 i) i.m.t1 i.m.t2) i.m.t1.pid s0 ⟨hpo.p0,hpo.p1,hpo.p2⟩
  by_cases h:0<(BH i (pl0 i) i.m.t1 i.m.t2).m.t1.pid
  ·have cp:=LY i.m.t1 hs.t1 hst.t1 (AH i i.m.t1.pid) (by have:=Ck i i.m.t1.pid;omega) hm.t1 (G4 ..) (YV hm.t1 h)
   repeat'(first|exact prB|refine stC ?_|refine stU (fun h=>?_) fun h=>?_|refine stN (fun b hb=>?_)|refine stM ?_ (c:=cw)|refine stM ?_ (c:=cp)|refine stL ?_ (c:=cw)|refine stL ?_ (c:=cp)|refine BC (id:=6) (m:=10) (ms:=[0,0,0,4,14,31,63,127,127,255]) Ag [(9,8)] Ab Y Y Y Y Ab Ab ?_|fail)
   all_goals first
    |(exfalso;omega)
    |exact Ay 2 Ac Ae [4] (Af Y Y (Af Y Y (Af Y (by rw[hw1];try rfl) Aj))) Y
  ·have e:pl1 i=i.m.t1:=UX hm.t1 h hp.e1
   repeat'(first|exact prB|refine stC ?_|refine stU (fun h=>?_) fun h=>?_|refine stN (fun b hb=>?_)|refine stM ?_ (c:=cw)|refine stL ?_ (c:=cw)|fail)
   all_goals first
    |(exfalso;omega)
    |(refine Ay 2 Ac Ae [4] (Af Y Y (Af Y Y (Af Y (by rw[hw1];try rfl) Aj))) ?_
      show _=[(4,_),(2,Blk.cells (Ah (A1 (BH i (pl0 i) (pl1 i) i.m.t2))))]
      rw[e];rfl)
 ·show Tr _ _ _ _ [(4,.cells (Ah Yv.zero)),(2,.cells (Ah (A1 (BH i (pl0 i) (pl1 i) i.m.t2))))] _
  have cw:=FA (BH i (pl0 i) (pl1 i) i.m.t2) i.m.t2.pid s1 ⟨hpo.p0,hpo.p1,hpo.p2⟩
  by_cases h:0<(BH i (pl0 i) (pl1 i) i.m.t2).m.t2.pid
  ·have cp:=LY i.m.t2 hs.t2 hst.t2 (AH i i.m.t2.pid) (by have:=Ck i i.m.t2.pid;omega) hm.t2 (G4 ..) (YV hm.t2 h)
   repeat'(first|exact prB|refine stC ?_|refine stU (fun h=>?_) fun h=>?_|refine stN (fun b hb=>?_)|refine stM ?_ (c:=cw)|refine stM ?_ (c:=cp)|refine stL ?_ (c:=cw)|refine stL ?_ (c:=cp)|refine BC (id:=6) (m:=10) (ms:=[0,0,0,4,14,31,63,127,127,255]) Ag [(9,8)] Ab Y Y Y Y Ab Ab ?_|fail)
   all_goals first
    |(exfalso;omega)
    |exact Ay 3 Ac Ae [4] (Af Y Y (Af Y Y (Af Y (by rw[hw2];try rfl) Aj))) Y
  ·have e:pl2 i=i.m.t2:=UX hm.t2 h hp.e2
   repeat'(first|exact prB|refine stC ?_|refine stU (fun h=>?_) fun h=>?_|refine stN (fun b hb=>?_)|refine stM ?_ (c:=cw)|refine stL ?_ (c:=cw)|fail)
   all_goals first
    |(exfalso;omega)
    |(refine Ay 3 Ac Ae [4] (Af Y Y (Af Y Y (Af Y (by rw[hw2];try rfl) Aj))) ?_
      show _=[(4,_),(2,Blk.cells (Ah (A1 (BH i (pl0 i) (pl1 i) (pl2 i)))))]
      rw[e];rfl)
 ·show Tr _ _ _ _ [(4,.cells (Ah Yv.zero)),(2,.cells (Ah (A1 (BH i (pl0 i) (pl1 i) (pl2 i)))))] _
  repeat'(first|exact prB|refine stC ?_|refine stU (fun h=>?_) fun h=>?_|refine stN (fun b hb=>?_)|refine stE 6 10 ?_|fail)
  all_goals first
   |(exfalso;omega)
   |exact Ai Y (A1y Y)
theorem Tz (i:Image) (ht:i.tag=0\/i.tag=1) (x:MEntry) (b:Bs) (hb:b.length<=1024) (m':MState)
  (hw:A17 169 [.agg (Ah (Ax x))] [] (.tuple [.t (.str b),.t (.int .i64 0)]) [])
  (hn:A17 97 [.agg (Ah (A6 i.m)),.agg (Ah (Ax x))] [] (.tuple [.agg (Ah (A6 m')),.t (.int .i64 0)]) []):
  A17 47 [.agg (Ah (A1 i)),.agg (Ah (Ax x))] [] (.tuple [.agg (Ah (A1 (EC i m'))),.row 52 4 0 2,.t (.int .i64 0)]) [(52,.grow 4 ((Cy i.tag b).map AF))]:=by
 have cp:=Adn i.tag ht x b hb hw
 refine ct1 Ag Tryz.func47 Y Y ?_
 repeat'(first|exact prB|refine stC ?_|refine stU (fun h=>?_) fun h=>?_|refine stN (fun b hb=>?_)|refine stL ?_ (c:=hn)|refine A0 Ag [] [(98,52)] Y Y Y Y Y (cp.args ⟨A1x _,Ar,trivial⟩) Y Y Y Y Y ?_|fail)
 all_goals first
  |(exfalso;simp_all;done)
  |exact Ba [1,2,3,4,7] Y Y Y (A1x _)
theorem Xr (i:Image) (ht:i.tag=0\/i.tag=1) (hs:SmallI i) (tid:Int) (yes:Bool) (thn:Int) (h1:0<=tid/\tid<3) (h2:(0<=thn/\thn<=20)/\(yes=true->thn=0)) (m1:MState)
  (hn3:A17 97 [.agg (Ah (A6 i.m)),.agg (Ah (Ax (e3 tid yes thn)))] [] (.tuple [.agg (Ah (A6 m1)),.t (.int .i64 0)]) [])
  (S:List Int->Step) (hS:S=Dr (Av i.m tid).pid yes ⟨Cy i.tag (mb3 tid yes thn),EC i m1⟩)
  (hE:EndsOk (Av i.m tid).pid yes ⟨Cy i.tag (mb3 tid yes thn),EC i m1⟩ (Av i.m tid).parts)
  (hG: ∀k q,(Av i.m tid).parts[k]?=some q->Bb (AX (S ((Av i.m tid).parts.take k)).i q)=true/\((S ((Av i.m tid).parts.take k)).i.tag=0\/(S ((Av i.m tid).parts.take k)).i.tag=1))
  (J:Step) (hJ:J=S (Av i.m tid).parts) (htJ:J.i.tag=i.tag)
  (m2:MState) (hn4:A17 97 [.agg (Ah (A6 J.i.m)),.agg (Ah (Ax (e4 tid)))] [] (.tuple [.agg (Ah (A6 m2)),.t (.int .i64 0)]) [])
  (K:Image) (hK:K=EC J.i m2) (hKs:SmallI K) (hKt:StM K.m) (hKo:SrtI K) (hKm:MayT K.m) (hKp:PlaceOk K):
  A17 19 [.agg (Ah (A1 i)),.t (.int .i64 tid),.t (.bool yes),.t (.int .i64 thn)] [] (.tuple [.agg (Ah (Di ⟨J.w++Cy i.tag (mb4 tid),BH K (pl0 K) (pl1 K) (pl2 K)⟩)),.t (.int .i64 0)]) []:=by
 have c3:A17 47 [.agg (Ah (A1 i)),.agg (Ah (Ac8 3 tid yes thn))] _ _ _:=(Tz i ht (e3 tid yes thn) (mb3 tid yes thn) (Aa8 h1 h2.1) m1 (Aew tid yes thn h1 h2) hn3).args ⟨A1x _,QW tid yes thn,trivial⟩
 have c4:A17 47 [.agg (Ah (A1 J.i)),.agg (Ah (Ac8 4 tid false 0))] _ _ _:=(Tz J.i (by rw[htJ];exact ht) (e4 tid) (mb4 tid) (Aa7 h1) m2 (Aev tid h1) hn4).args ⟨A1x _,QV tid,trivial⟩
 rw[<-hK,htJ]at c4
 have cs:=W3 K hKs hKt hKo hKm hKp
 have hlm:((Av i.m tid).parts.map Bz).length=(Av i.m tid).parts.length:=List.length_map ..
 have hlen:=hE.len
 obtain⟨_,hsm,hgd,hwl⟩:=hE
 rw[<-hS]at hsm hgd hwl
 have hwJ:=hwl _ (Nat.le_refl _)
 rw[List.take_of_length_le (Nat.le_refl _),<-hJ]at hwJ
 have hres:Di ⟨J.w++Cy i.tag (mb4 tid),BH K (pl0 K) (pl1 K) (pl2 K)⟩=T.slice .any 4 (J.w.map AF++(Cy i.tag (mb4 tid)).map AF)::A1 (BH K (pl0 K) (pl1 K) (pl2 K)):=by unfold Di;rw[List.map_append]
 rw[hres]
 rcases BB h1 with rfl|rfl|rfl
 ·refine ct0 Ag Tryz.func19 Y false Y Y ?_
  repeat'(first|exact prB|refine stC ?_|refine stU (fun h=>?_) fun h=>?_|refine stN (fun b hb=>?_)|refine A0 Ag [] [(52,150)] Y Y Y Y Y c3 Y Y Y Y Y ?_|fail)
  refine A3 (ι:=Nat) (fun k=>k<=i.m.t0.parts.length) (fun k=>[(1,.t (.int .i64 0)),(2,.t (.bool yes)),(4,.ref 8 0),(8,.ref 16 0),(10,.ref 20 0),(11,.row 150 4 0 ((S (i.m.t0.parts.take k)).w.map AF).length),(13,.t (.int .i64 k))]) (fun k=>[(150,.grow 4 ((S (i.m.t0.parts.take k)).w.map AF)),(20,.cells (Ah (A4 i.m.t0))),(16,.cells (Ah Yu.zero)),(8,.cells (Ah (A1 (S (i.m.t0.parts.take k)).i)))]) (fun k=>i.m.t0.parts.length-k) 0 Ac ?_ ?_
  ·subst hS;exact AE [] (Af Y Y (Af Y Y (Af Y Y (Af Y Y (Af Y Y (Af Y Y (Af Y Y Aj))))))) Y
  rintro k hk
  have hl':i.m.t0.parts.length<=1000000:=hlen
  by_cases hlt:k<i.m.t0.parts.length
  ·have hr:i.m.t0.parts[k]?=some i.m.t0.parts[k]:=List.getElem?_eq_getElem hlt
   have hsk:=hsm k (Nat.le_of_lt hlt)
   have hwk:=hwl k (Nat.le_of_lt hlt)
   obtain⟨hq,hgk⟩:=hgd k _ hr
   obtain⟨hpk,htk⟩:=hG k _ hr
   have ht2:S (i.m.t0.parts.take (k+1))=CB i.m.t0.pid yes (S (i.m.t0.parts.take k)) i.m.t0.parts[k]:=by rw[A5 hr,hS];exact Gm ..
   have hwk1:=hwl (k+1) hlt
   rw[show(Av i.m 0).parts=i.m.t0.parts from rfl]at hsk hwk hgk hwk1 hpk htk
   rw[show(Av i.m 0).pid=i.m.t0.pid from rfl]at hgk
   rw[ht2]at hwk1
   generalize i.m.t0.parts[k]=q at hr hq hgk ht2 hwk1 hpk
   generalize S (i.m.t0.parts.take k)=s at hsk hwk hgk ht2 hwk1 hpk htk
   have cE:=RY s.i.tag q htk hq (AX s.i q) i.m.t0.pid yes (hsk.part q) hpk
   unfold EO.av at cE
   rw[hgk]at cE
   simp only[CB]at ht2 hwk1
   generalize End s.i.tag q (AX s.i q) i.m.t0.pid yes=E at cE ht2 hwk1
   rw[List.length_append]at hwk1
   rcases hq with rfl|rfl|rfl
   all_goals
    repeat'(first|exact prB|refine stC ?_|refine stU (fun h=>?_) fun h=>?_|refine stN (fun b hb=>?_)|refine stM ?_ (c:=cE)|refine stL ?_ (c:=cE)|refine BC (id:=9) (m:=18) (ms:=[0,1,0,0,0,24,56,0,128,0,1023,2047,4095,4095,4095,0,40959,114687,262143]) Ag [(16,30)] Ab Y Y Y Y Ab Ab ?_|fail)
    all_goals first
     |(refine Ay (k+1) hlt Aa [15] (Af Y Y (Af Y Y (Af Y Y (Af Y Y (Af Y Y (Af Y ?_ (Af Y (by rw[An Aa Aa];rfl) Aj))))))) ?_
       all_goals(rw[ht2];(try simp only[List.map_append]);rfl))
  ·have htk:i.m.t0.parts.take k=i.m.t0.parts:=List.take_of_length_le Aa
   rw[htk,show S i.m.t0.parts=J from hJ.symm]
   have hfz:B5 150 4 (J.w.map AF++(Cy i.tag (mb4 0)).map AF) (.row 150 4 0 (J.w.map AF++(Cy i.tag (mb4 0)).map AF).length)=.t (.slice .any 4 (J.w.map AF++(Cy i.tag (mb4 0)).map AF)):=GD _ _ _ _ Y
   repeat'(first|exact prB|refine A16 160 Y ?_|refine BF 90 150 Y Y Y hfz ?_|refine stC ?_|refine stU (fun h=>?_) fun h=>?_|refine stN (fun b hb=>?_)|refine A0 Ag [] [(52,160)] Y Y Y Y Y c4 Y Y Y Y Y ?_|refine GK Ag [0,1] 6 Ab Y Y (by rintro ch e s ⟨hx,_⟩;rcases hx with hx|hx<;>cases hx) ?_|refine LD Y ?_|refine CR Y Y ?_|refine E5 Y Y Y ?_ ?_|refine Ut Y Y Y Y ?_ ?_ ?_|refine stL ?_ (c:=cs)|fail)
   all_goals first
    |exact Ai Y (A1y Y)
 ·refine ct0 Ag Tryz.func19 Y false Y Y ?_
  repeat'(first|exact prB|refine stC ?_|refine stU (fun h=>?_) fun h=>?_|refine stN (fun b hb=>?_)|refine A0 Ag [] [(52,150)] Y Y Y Y Y c3 Y Y Y Y Y ?_|fail)
  refine A3 (ι:=Nat) (fun k=>k<=i.m.t1.parts.length) (fun k=>[(1,.t (.int .i64 1)),(2,.t (.bool yes)),(4,.ref 8 0),(8,.ref 16 0),(10,.ref 20 0),(11,.row 150 4 0 ((S (i.m.t1.parts.take k)).w.map AF).length),(13,.t (.int .i64 k))]) (fun k=>[(150,.grow 4 ((S (i.m.t1.parts.take k)).w.map AF)),(20,.cells (Ah (A4 i.m.t1))),(16,.cells (Ah Yu.zero)),(8,.cells (Ah (A1 (S (i.m.t1.parts.take k)).i)))]) (fun k=>i.m.t1.parts.length-k) 0 Ac ?_ ?_
  ·subst hS;exact AE [] (Af Y Y (Af Y Y (Af Y Y (Af Y Y (Af Y Y (Af Y Y (Af Y Y Aj))))))) Y
  rintro k hk
  have hl':i.m.t1.parts.length<=1000000:=hlen
  by_cases hlt:k<i.m.t1.parts.length
  ·have hr:i.m.t1.parts[k]?=some i.m.t1.parts[k]:=List.getElem?_eq_getElem hlt
   have hsk:=hsm k (Nat.le_of_lt hlt)
   have hwk:=hwl k (Nat.le_of_lt hlt)
   obtain⟨hq,hgk⟩:=hgd k _ hr
   obtain⟨hpk,htk⟩:=hG k _ hr
   have ht2:S (i.m.t1.parts.take (k+1))=CB i.m.t1.pid yes (S (i.m.t1.parts.take k)) i.m.t1.parts[k]:=by rw[A5 hr,hS];exact Gm ..
   have hwk1:=hwl (k+1) hlt
   rw[show(Av i.m 1).parts=i.m.t1.parts from rfl]at hsk hwk hgk hwk1 hpk htk
   rw[show(Av i.m 1).pid=i.m.t1.pid from rfl]at hgk
   rw[ht2]at hwk1
   generalize i.m.t1.parts[k]=q at hr hq hgk ht2 hwk1 hpk
   generalize S (i.m.t1.parts.take k)=s at hsk hwk hgk ht2 hwk1 hpk htk
   have cE:=RY s.i.tag q htk hq (AX s.i q) i.m.t1.pid yes (hsk.part q) hpk
   unfold EO.av at cE
   rw[hgk]at cE
   simp only[CB]at ht2 hwk1
   generalize End s.i.tag q (AX s.i q) i.m.t1.pid yes=E at cE ht2 hwk1
   rw[List.length_append]at hwk1
   rcases hq with rfl|rfl|rfl
   all_goals
    repeat'(first|exact prB|refine stC ?_|refine stU (fun h=>?_) fun h=>?_|refine stN (fun b hb=>?_)|refine stM ?_ (c:=cE)|refine stL ?_ (c:=cE)|refine BC (id:=9) (m:=18) (ms:=[0,1,0,0,0,24,56,0,128,0,1023,2047,4095,4095,4095,0,40959,114687,262143]) Ag [(16,30)] Ab Y Y Y Y Ab Ab ?_|fail)
    all_goals first
     |(refine Ay (k+1) hlt Aa [15] (Af Y Y (Af Y Y (Af Y Y (Af Y Y (Af Y Y (Af Y ?_ (Af Y (by rw[An Aa Aa];rfl) Aj))))))) ?_
       all_goals(rw[ht2];(try simp only[List.map_append]);rfl))
  ·have htk:i.m.t1.parts.take k=i.m.t1.parts:=List.take_of_length_le Aa
   rw[htk,show S i.m.t1.parts=J from hJ.symm]
   have hfz:B5 150 4 (J.w.map AF++(Cy i.tag (mb4 1)).map AF) (.row 150 4 0 (J.w.map AF++(Cy i.tag (mb4 1)).map AF).length)=.t (.slice .any 4 (J.w.map AF++(Cy i.tag (mb4 1)).map AF)):=GD _ _ _ _ Y
   repeat'(first|exact prB|refine A16 160 Y ?_|refine BF 90 150 Y Y Y hfz ?_|refine stC ?_|refine stU (fun h=>?_) fun h=>?_|refine stN (fun b hb=>?_)|refine A0 Ag [] [(52,160)] Y Y Y Y Y c4 Y Y Y Y Y ?_|refine GK Ag [0,1] 6 Ab Y Y (by rintro ch e s ⟨hx,_⟩;rcases hx with hx|hx<;>cases hx) ?_|refine LD Y ?_|refine CR Y Y ?_|refine E5 Y Y Y ?_ ?_|refine Ut Y Y Y Y ?_ ?_ ?_|refine stL ?_ (c:=cs)|fail)
   all_goals first
    |exact Ai Y (A1y Y)
 ·refine ct0 Ag Tryz.func19 Y false Y Y ?_
  repeat'(first|exact prB|refine stC ?_|refine stU (fun h=>?_) fun h=>?_|refine stN (fun b hb=>?_)|refine A0 Ag [] [(52,150)] Y Y Y Y Y c3 Y Y Y Y Y ?_|fail)
  refine A3 (ι:=Nat) (fun k=>k<=i.m.t2.parts.length) (fun k=>[(1,.t (.int .i64 2)),(2,.t (.bool yes)),(4,.ref 8 0),(8,.ref 16 0),(10,.ref 20 0),(11,.row 150 4 0 ((S (i.m.t2.parts.take k)).w.map AF).length),(13,.t (.int .i64 k))]) (fun k=>[(150,.grow 4 ((S (i.m.t2.parts.take k)).w.map AF)),(20,.cells (Ah (A4 i.m.t2))),(16,.cells (Ah Yu.zero)),(8,.cells (Ah (A1 (S (i.m.t2.parts.take k)).i)))]) (fun k=>i.m.t2.parts.length-k) 0 Ac ?_ ?_
  ·subst hS;exact AE [] (Af Y Y (Af Y Y (Af Y Y (Af Y Y (Af Y Y (Af Y Y (Af Y Y Aj))))))) Y
  rintro k hk
  have hl':i.m.t2.parts.length<=1000000:=hlen
  by_cases hlt:k<i.m.t2.parts.length
  ·have hr:i.m.t2.parts[k]?=some i.m.t2.parts[k]:=List.getElem?_eq_getElem hlt
   have hsk:=hsm k (Nat.le_of_lt hlt)
   have hwk:=hwl k (Nat.le_of_lt hlt)
   obtain⟨hq,hgk⟩:=hgd k _ hr
   obtain⟨hpk,htk⟩:=hG k _ hr
   have ht2:S (i.m.t2.parts.take (k+1))=CB i.m.t2.pid yes (S (i.m.t2.parts.take k)) i.m.t2.parts[k]:=by rw[A5 hr,hS];exact Gm ..
   have hwk1:=hwl (k+1) hlt
   rw[show(Av i.m 2).parts=i.m.t2.parts from rfl]at hsk hwk hgk hwk1 hpk htk
   rw[show(Av i.m 2).pid=i.m.t2.pid from rfl]at hgk
   rw[ht2]at hwk1
   generalize i.m.t2.parts[k]=q at hr hq hgk ht2 hwk1 hpk
   generalize S (i.m.t2.parts.take k)=s at hsk hwk hgk ht2 hwk1 hpk htk
   have cE:=RY s.i.tag q htk hq (AX s.i q) i.m.t2.pid yes (hsk.part q) hpk
   unfold EO.av at cE
   rw[hgk]at cE
   simp only[CB]at ht2 hwk1
   generalize End s.i.tag q (AX s.i q) i.m.t2.pid yes=E at cE ht2 hwk1
   rw[List.length_append]at hwk1
   rcases hq with rfl|rfl|rfl
   all_goals
    repeat'(first|exact prB|refine stC ?_|refine stU (fun h=>?_) fun h=>?_|refine stN (fun b hb=>?_)|refine stM ?_ (c:=cE)|refine stL ?_ (c:=cE)|refine BC (id:=9) (m:=18) (ms:=[0,1,0,0,0,24,56,0,128,0,1023,2047,4095,4095,4095,0,40959,114687,262143]) Ag [(16,30)] Ab Y Y Y Y Ab Ab ?_|fail)
    all_goals first
     |(refine Ay (k+1) hlt Aa [15] (Af Y Y (Af Y Y (Af Y Y (Af Y Y (Af Y Y (Af Y ?_ (Af Y (by rw[An Aa Aa];rfl) Aj))))))) ?_
       all_goals(rw[ht2];(try simp only[List.map_append]);rfl))
  ·have htk:i.m.t2.parts.take k=i.m.t2.parts:=List.take_of_length_le Aa
   rw[htk,show S i.m.t2.parts=J from hJ.symm]
   have hfz:B5 150 4 (J.w.map AF++(Cy i.tag (mb4 2)).map AF) (.row 150 4 0 (J.w.map AF++(Cy i.tag (mb4 2)).map AF).length)=.t (.slice .any 4 (J.w.map AF++(Cy i.tag (mb4 2)).map AF)):=GD _ _ _ _ Y
   repeat'(first|exact prB|refine A16 160 Y ?_|refine BF 90 150 Y Y Y hfz ?_|refine stC ?_|refine stU (fun h=>?_) fun h=>?_|refine stN (fun b hb=>?_)|refine A0 Ag [] [(52,160)] Y Y Y Y Y c4 Y Y Y Y Y ?_|refine GK Ag [0,1] 6 Ab Y Y (by rintro ch e s ⟨hx,_⟩;rcases hx with hx|hx<;>cases hx) ?_|refine LD Y ?_|refine CR Y Y ?_|refine E5 Y Y Y ?_ ?_|refine Ut Y Y Y Y ?_ ?_ ?_|refine stL ?_ (c:=cs)|fail)
   all_goals first
    |exact Ai Y (A1y Y)
end Go.Proofs.YtmohpcgmdheafaaGreatDoor
