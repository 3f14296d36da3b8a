/- Contracts of references: the coordinator's state and its log. -/
import Derived.Test.YtmohpcgmdheafaaGreatDoorZK4
import Derived.Test.YtmohpcgmdheafaaGreatDoorZK7
import Derived.Test.YtmohpcgmdheafaaGreatDoorZSd
set_option linter.unusedVariables false
set_option linter.unusedSimpArgs false
set_option maxRecDepth 100000
set_option maxHeartbeats 8000000
namespace Go.Proofs.YtmohpcgmdheafaaGreatDoor
open Go.Am
attribute [local irreducible] Decidable.decide Tr A2 hSK hSW
theorem R1 {c:Coord} (h:Bp c=true):0<=c.pid:=by
 by_cases h0:c.state=0
 ·unfold Bp at h
  rw[if_pos h0]at h
  have:=of_decide_eq_true h
  rw[this];decide
 ·have:=(DY (D2 h h0)).1.1;omega
structure StM (s:MState):Prop where
 t0:StC s.t0
 t1:StC s.t1
 t2:StC s.t2
set_option maxHeartbeats 40000000 in
theorem Km (s:MState) (hs:SmallM s) (hst:StM s):A17 43 [.agg (Ah (A6 s))] [] (.t (.bool (BQ s))) []:=by
 have c0:=I1 s.t0 hs.t0 hst.t0
 have c1:=I1 s.t1 hs.t1 hst.t1
 have c2:=I1 s.t2 hs.t2 hst.t2
 have p0:Bp s.t0=true->0<=s.t0.pid:=R1
 have p1:Bp s.t1=true->0<=s.t1.pid:=R1
 have p2:Bp s.t2=true->0<=s.t2.pid:=R1
 have e0:okM s 0=(Bp s.t0&&decide (s.t0.pid<=s.made)):=rfl
 have e1:okM s 1=((Bp s.t1&&decide (s.t1.pid<=s.made))&&EA s.t1 s.t0):=rfl
 have e2:okM s 2=((Bp s.t2&&decide (s.t2.pid<=s.made))&&(EA s.t2 s.t0&&EA s.t2 s.t1)):=rfl
 unfold EA at e1 e2
 generalize Bp s.t0=M0 at c0 p0 e0
 generalize Bp s.t1=M1 at c1 p1 e1
 generalize Bp s.t2=M2 at c2 p2 e2
 have hw0:IntKind.i64.wrap (0+1)=1:=by decide+kernel
 have hw1:IntKind.i64.wrap (1+1)=2:=by decide+kernel
 have hw2:IntKind.i64.wrap (2+1)=3:=by decide+kernel
 by_cases hmd:0<=s.made/\s.made<=8
 case neg=>
  have e:BQ s=false:=by rw[Kj,decide_eq_false hmd,Bool.false_and]
  rw[e]
  refine ct0 Ag Tryz.func43 Y false Y Y ?_
  repeat'(first|exact prB|refine stC ?_|refine stU (fun h=>?_) fun h=>?_|refine stN (fun b hb=>?_)|refine stE 6 14 ?_|refine stE 11 17 ?_|fail)
  all_goals first
   |exact Ai Y (A1y Y)
   |(exfalso;omega)
 refine ct0 Ag Tryz.func43 Y false Y Y ?_
 repeat'(first|exact prB|refine stC ?_|refine stU (fun h=>?_) fun h=>?_|refine stN (fun b hb=>?_)|refine stE 6 14 ?_|refine stE 11 17 ?_|fail)
 all_goals try(exfalso;omega)
 refine A3 (ι:=Int) (fun t=>(t=0\/t=1\/t=2\/t=3)/\ ∀j,0<=j->j<t->okM s j=true) (fun t=>[(1,.ref 2 0),(3,.t (.int .i64 t))]) (fun _=>[(2,.cells (Ah (A6 s)))]) (fun t=>(3-t).toNat) 0 ⟨.inl Y,fun j _ _=>by omega⟩ ?_ ?_
 ·exact AE [] (Af Y Y (Af Y Y Aj)) Y
 rintro t ⟨ht,hok⟩
 rcases ht with rfl|rfl|rfl|rfl
 ·repeat'(first|exact prB|rw[hw0]|rw[hw1]|rw[hw2]|refine stC ?_|refine stU (fun h=>?_) fun h=>?_|refine stN (fun b hb=>?_)|refine stE 6 14 ?_|refine stE 11 17 ?_|refine stM ?_ (c:=c0)|refine stL ?_ (c:=c0)|refine AN 5 ?_|refine AQ ?_|fail)
  all_goals first
   |(refine Ai Y (A1y ?_);rw[Oh (s:=s) (t:=0) Ac (by rw[e0];first|(simp_all;done)|(simp_all;omega))];done)
   |(refine Ay 1 ⟨by simp,fun j h1 h2=>?_⟩ Ae [] (Af Y Y (Af Y (by first|rfl|rw[hw0]) Aj)) Y
     by_cases e:j=0
     ·subst e;rw[e0];first|(simp_all;done)|(simp_all;omega)
     ·exact hok j h1 Aa)
 ·repeat'(first|exact prB|rw[hw0]|rw[hw1]|rw[hw2]|refine stC ?_|refine stU (fun h=>?_) fun h=>?_|refine stN (fun b hb=>?_)|refine stE 6 14 ?_|refine stE 11 17 ?_|refine stM ?_ (c:=c1)|refine stL ?_ (c:=c1)|refine AN 5 ?_|refine AQ ?_|fail)
  all_goals first
   |(refine Ai Y (A1y ?_);rw[Oh (s:=s) (t:=1) Ac (by rw[e1];first|(simp_all;done)|(simp_all;omega))];done)
   |(refine Ay 2 ⟨by simp,fun j h1 h2=>?_⟩ Ae [] (Af Y Y (Af Y (by first|rfl|rw[hw1]) Aj)) Y
     by_cases e:j=1
     ·subst e;rw[e1];first|(simp_all;done)|(simp_all;omega)
     ·exact hok j h1 Aa)
 ·repeat'(first|exact prB|rw[hw0]|rw[hw1]|rw[hw2]|refine stC ?_|refine stU (fun h=>?_) fun h=>?_|refine stN (fun b hb=>?_)|refine stE 6 14 ?_|refine stE 11 17 ?_|refine stM ?_ (c:=c2)|refine stL ?_ (c:=c2)|refine AN 5 ?_|refine AQ ?_|fail)
  all_goals first
   |(refine Ai Y (A1y ?_);rw[Oh (s:=s) (t:=2) Ac (by rw[e2];first|(simp_all;done)|(simp_all;omega))];done)
   |(refine Ay 3 ⟨by simp,fun j h1 h2=>?_⟩ Ae [] (Af Y Y (Af Y (by first|rfl|rw[hw2]) Aj)) Y
     by_cases e:j=2
     ·subst e;rw[e2];first|(simp_all;done)|(simp_all;omega)
     ·exact hok j h1 Aa)
 ·have q0:=hok 0 Aa Aa
  have q1:=hok 1 Aa Aa
  have q2:=hok 2 Aa Aa
  rw[Kj,decide_eq_true hmd,q0,q1,q2]
  simp only[Bool.true_and]
  unfold grM Gz
  clear e0 e1 e2 c0 c1 c2 hok q0 q1 q2 p0 p1 p2
  repeat'(first|exact prB|rw[hw0]|rw[hw1]|rw[hw2]|refine stC ?_|refine stU (fun h=>?_) fun h=>?_|refine stN (fun b hb=>?_)|refine stE 6 14 ?_|refine stE 11 17 ?_|refine AN 5 ?_|refine AQ ?_|fail)
  all_goals first
   |(exfalso;omega)
   |(refine Ai Y (AP ?_);simp_all;done)
   |(refine Ai Y (AP ?_);simp_all;omega)
theorem Va (s:MState) (pid:Int):A17 45 [.agg (Ah (A6 s)),.t (.int .i64 pid)] [] (ofR (ofM s pid)) []:=by
 have hw0:IntKind.i64.wrap (0+1)=1:=by decide+kernel
 have hw1:IntKind.i64.wrap (1+1)=2:=by decide+kernel
 have hw2:IntKind.i64.wrap (2+1)=3:=by decide+kernel
 have hpos:(1<=pid)=(0<pid):=by apply propext;omega
 unfold ofM TC
 simp only[hpos]
 refine ct0 Ag Tryz.func45 Y false Y (by unfold ofR;split<;>rfl) ?_
 repeat'(first|exact prB|rw[hw0]|rw[hw1]|rw[hw2]|refine stC ?_|refine stU (fun h=>?_) fun h=>?_|refine stN (fun b hb=>?_)|refine AN 5 ?_|refine AQ ?_|fail)
 all_goals first
  |exact Ai Y (A1y (by simp[ofR,Av, *]<;>rfl))
  |exact⟨.inr trivial,_,_,Y,A1y (by simp[ofR,Av, *]<;>rfl)⟩
def Hp (c:Coord):Bool:=decide (40<c.parts.length\/40<c.pends.length)
theorem Zw (s:MState):A17 10 [.agg (Ah (A6 s))] [] (.t (.bool (Hp s.t0||(Hp s.t1||Hp s.t2)))) []:=by
 have c0:=Mi s.t0
 have c1:=Mi s.t1
 have c2:=Mi s.t2
 rw[show decide (40<s.t0.parts.length\/40<s.t0.pends.length)=Hp s.t0 from rfl]at c0
 rw[show decide (40<s.t1.parts.length\/40<s.t1.pends.length)=Hp s.t1 from rfl]at c1
 rw[show decide (40<s.t2.parts.length\/40<s.t2.pends.length)=Hp s.t2 from rfl]at c2
 generalize Hp s.t0=G0 at c0⊢
 generalize Hp s.t1=G1 at c1⊢
 generalize Hp s.t2=G2 at c2⊢
 have hw0:IntKind.i64.wrap (0+1)=1:=by decide+kernel
 have hw1:IntKind.i64.wrap (1+1)=2:=by decide+kernel
 have hw2:IntKind.i64.wrap (2+1)=3:=by decide+kernel
 cases G0<;>cases G1<;>cases G2
 all_goals
  refine ct0 Ag Tryz.func10 Y false Y Y ?_
  repeat'(first|exact prB|refine stC ?_|refine stU (fun h=>?_) fun h=>?_|refine stN (fun b hb=>?_)|refine stL ?_ (c:=c0)|refine stL ?_ (c:=c1)|refine stL ?_ (c:=c2)|refine AN 5 ?_|refine AQ ?_|rw[hw0]|rw[hw1]|rw[hw2]|fail)
  all_goals first
   |exact Ai Y (A1y Y)
theorem Acr (s:MState) (hs:SmallM s):A17 51 [.agg (Ah (A6 s)),.agg (Ah (A6 s))] [] (.t (.bool true)) []:=by
 have c0:=Ir s.t0 s.t0 hs.t0
 have c1:=Ir s.t1 s.t1 hs.t1
 have c2:=Ir s.t2 s.t2 hs.t2
 rw[decide_eq_true Y]at c0 c1 c2
 have hw0:IntKind.i64.wrap (0+1)=1:=by decide+kernel
 have hw1:IntKind.i64.wrap (1+1)=2:=by decide+kernel
 have hw2:IntKind.i64.wrap (2+1)=3:=by decide+kernel
 refine ct0 Ag Tryz.func51 Y false Y Y ?_
 repeat'(first|exact prB|refine stC ?_|refine stU (fun h=>?_) fun h=>?_|refine stN (fun b hb=>?_)|refine stE 4 8 ?_|refine Ars Ag Y Y Y Y Y Y Y ?_|refine stL ?_ (c:=c0)|refine stL ?_ (c:=c1)|refine stL ?_ (c:=c2)|refine stM ?_ (c:=c0)|refine stM ?_ (c:=c1)|refine stM ?_ (c:=c2)|refine AN 5 ?_|refine AQ ?_|rw[hw0]|rw[hw1]|rw[hw2]|fail)
 all_goals first
  |(exfalso;simp_all;done)
  |exact Ai Y (AP Ac)
theorem JH (n a b:Int):A17 226 [.t (.int .i64 n),.t (.int .i64 a),.t (.int .i64 b)] [] (.t (.bool (decide (a<=n/\n<=b)))) []:=by
 refine ct0 Ag Tryz.func226 Y false Y Y ?_
 repeat'(first|exact prB|refine stC ?_|refine stU (fun h=>?_) fun h=>?_|refine stN (fun b hb=>?_)|fail)
 all_goals(refine Ai Y (AP ?_);simp_all;try omega)
theorem RD (e:MEntry) (hc:SmallC e.c):A17 224 [.agg (Ah (Ax e)),.agg (Ah (Ax e))] [] (.t (.bool true)) []:=by
 have cs:=Ir e.c e.c hc
 rw[decide_eq_true Y]at cs
 refine ct0 Ag Tryz.func224 Y false Y Y ?_
 repeat'(first|exact prB|refine stC ?_|refine stU (fun h=>?_) fun h=>?_|refine stN (fun b hb=>?_)|refine stL ?_ (c:=cs)|fail)
 all_goals first
  |(exfalso;simp_all;done)
  |exact Ai Y (AP (by simp_all))
theorem Ajy (tid:Int) (yes:Bool) (thn:Int):A17 225 [.agg (Ah (Ax (e3 tid yes thn)))] [] (.agg (Ah (Ax (e3 tid yes thn)))) []:=by
 rw[HN]
 refine ct0 Ag Tryz.func225 Y false Y Y ?_
 repeat'(first|exact prB|refine stC ?_|refine stU (fun h=>?_) fun h=>?_|refine stN (fun b hb=>?_)|fail)
 all_goals first
  |(exfalso;simp_all;done)
  |exact Ai Y (QW tid yes thn)
theorem Ajx (tid:Int):A17 225 [.agg (Ah (Ax (e4 tid)))] [] (.agg (Ah (Ax (e4 tid)))) []:=by
 rw[Fr]
 refine ct0 Ag Tryz.func225 Y false Y Y ?_
 repeat'(first|exact prB|refine stC ?_|refine stU (fun h=>?_) fun h=>?_|refine stN (fun b hb=>?_)|fail)
 all_goals first
  |(exfalso;simp_all;done)
  |exact Ai Y (QV tid)
theorem WT (tid:Int) (yes:Bool) (thn:Int) (h1:0<=tid/\tid<3) (h2:(0<=thn/\thn<=20)/\(yes=true->thn=0)):A17 165 [.agg (Ah (Ax (e3 tid yes thn)))] [] (.t (.bool true)) []:=by
 rw[HN]
 have cb:=Ajy tid yes thn
 have cs:=RD (e3 tid yes thn) CZ
 have w1:=JH tid 0 2
 have w2:=JH thn 0 20
 rw[decide_eq_true Aa]at w1
 rw[decide_eq_true Aa]at w2
 cases yes
 all_goals
  refine ct0 Ag Tryz.func165 Y false Y Y ?_
  repeat'(first|exact prB|refine stC ?_|refine stU (fun h=>?_) fun h=>?_|refine stN (fun b hb=>?_)|refine stE 1 3 ?_|refine stM ?_ (c:=cb)|refine stM ?_ (c:=cs)|refine stM ?_ (c:=w1)|refine stL ?_ (c:=cb)|refine stL ?_ (c:=cs)|refine stL ?_ (c:=w1)|refine stL ?_ (c:=w2)|fail)
  all_goals first
   |(exfalso;simp_all;done)
   |(exfalso;simp_all;omega)
   |exact Ai Y (AP (by simp_all))
theorem WS (tid:Int) (h1:0<=tid/\tid<3):A17 165 [.agg (Ah (Ax (e4 tid)))] [] (.t (.bool true)) []:=by
 rw[Fr]
 have cb:=Ajx tid
 have cs:=RD (e4 tid) CZ
 have w1:=JH tid 0 2
 rw[decide_eq_true Aa]at w1
 refine ct0 Ag Tryz.func165 Y false Y Y ?_
 repeat'(first|exact prB|refine stC ?_|refine stU (fun h=>?_) fun h=>?_|refine stN (fun b hb=>?_)|refine stE 1 3 ?_|refine stM ?_ (c:=cb)|refine stM ?_ (c:=cs)|refine stM ?_ (c:=w1)|refine stL ?_ (c:=cb)|refine stL ?_ (c:=cs)|refine stL ?_ (c:=w1)|fail)
 all_goals first
  |(exfalso;simp_all;done)
  |exact Ai Y (AP (by simp_all))
theorem Y7 (s:MState) (t g q n:Int) (c:Coord):AO (IY s g q n) t c=IY (AO s t c) g q n:=by
 unfold AO IY
 repeat' split
 all_goals rfl
theorem MC: ∀(l:List Pend) (s:MState) (t:Int) (c:Coord),AO (BI s l) t c=BI (AO s t c) l
 |[],_,_,_=>rfl
 |p::r,s,t,c=>by rw[BI,BI,MC r,Y7]
theorem Ahq (c:Coord) (hc:SmallC c) (tid:Int) (yes:Bool) (thn made:Int) (hm:Bp c=true) (h2:c.state=2) (hf:(0<=thn/\thn<=20)/\(yes=true->thn=0)) (hx: ¬(0<thn/\c.epoch=100)):A17 167 [.agg (Ah (A4 c)),.agg (Ah (Ax (e3 tid yes thn))),.t (.int .i64 made)] [] (.tuple [.agg (Ah (A4 {c with state:=if yes=true then 3 else 4,thn:=thn})),.t (.int .i64 0)]) []:=by
 rw[HN]
 have cp:=Adb c hc yes thn hm h2 hf hx
 refine ct0 Ag Tryz.func167 Y false Y Y ?_
 repeat'(first|exact prB|refine stC ?_|refine stU (fun h=>?_) fun h=>?_|refine stN (fun b hb=>?_)|refine stL ?_ (c:=cp)|fail)
 all_goals first
  |(exfalso;simp_all;done)
  |exact Ai Y (A1y Y)
theorem Ahp (c:Coord) (hc:SmallC c) (tid made:Int) (hm:Bp c=true) (hs:c.state=3\/c.state=4):A17 167 [.agg (Ah (A4 c)),.agg (Ah (Ax (e4 tid))),.t (.int .i64 made)] [] (.tuple [.agg (Ah (A4 (Cd c))),.t (.int .i64 0)]) []:=by
 rw[Fr]
 have cp:=ZG c hc hm hs
 refine ct0 Ag Tryz.func167 Y false Y Y ?_
 repeat'(first|exact prB|refine stC ?_|refine stU (fun h=>?_) fun h=>?_|refine stN (fun b hb=>?_)|refine stL ?_ (c:=cp)|fail)
 all_goals first
  |(exfalso;simp_all;done)
  |exact Ai Y (A1y Y)
end Go.Proofs.YtmohpcgmdheafaaGreatDoor
