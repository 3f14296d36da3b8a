/- Lemmas toward the law; each names its conditions. -/
import Derived.Test.YtppffhlbcgpgdaaGreatDoorYKB
import Derived.Test.YtppffhlbcgpgdaaGreatDoorYXV
set_option linter.all false
set_option maxRecDepth 100000
set_option maxHeartbeats 8000000
namespace Go.Proofs.YtppffhlbcgpgdaaGreatDoor
open Go.Am
attribute [local irreducible] Decidable.decide Tr A6 CG EJ
def H3 (n:Int):T:=.iface 197 (.ptr [.iface 52 (.int .i64 n)])
theorem Kb (n:Int) (hn:n≠0):A3z 71 [.t (.int .i64 n)] [] (.t (H3 n)) []:=by
 refine yF Tryz.func71 ?_
 repeat'(first|exact Au|refine Cr 8 16 Y Y Y Y Y ?_|refine yC ?_ ?_|refine⟨λh=>?_⟩|fail)
 all_goals first
  |(exfalso;omega)
  |exact Ah Y (A3m Y)
theorem PJ:A3z 71 [.t (.int .i64 0)] [] (.t .nilIface) []:=by
 refine yF Tryz.func71 ?_
 repeat'(first|exact Au|refine yC ?_ ?_|refine⟨λh=>?_⟩|fail)
 all_goals first
  |(exfalso;omega)
  |exact Ah Y (A3m Y)
theorem ND (c:Coord) (cL:G7 c):A3z 80 [.agg (Af (AN c))] [] (.t (.bool (decide (c.state=3\/c.state=4)))) []:=by
 refine yF Tryz.func80 ?_
 repeat'(first|exact Au|refine yC ?_ ?_|refine⟨λh=>?_⟩|fail)
 all_goals first
  |(exfalso;omega)
  |(refine Ah Y (BL ?_);simp_all;done)
  |(refine Ah Y (BL ?_);simp_all;omega)
theorem Afx (i:Image) (r:Req) (ht:i.vQ=0\/i.vQ=1) (x:MEntry) (b:Bs) (hb:b.length<=1024) (S':MState) (cn:A3z 100 [.agg (Af (Az i.m)),.agg (Af (Al x))] [] (.tuple [.agg (Af (Az S')),.t (.int .i64 0)]) []) (cw:A3z 149 [.agg (Af (Al x))] [] (.tuple [.t (.str b),.t .nilIface]) []):A3z 69 [.ref 1 0,.agg (Af (Al x))] [(1,.cells (Af (Ao i++A7 r)))] (.tuple [.row 58 4 0 2,.t .nilIface]) [(58,.grow 4 ((Gn i.vQ b).map BE)),(1,.cells (Af (Ao (Dy i S')++A7 r)))]:=by
 have cp:=VU i.vQ ht x b hb cw;refine yG Tryz.func69 ?_
 repeat'(first|refine Ew Ai [] [(102,58)] Y Y Y Y Y (cp.args ⟨A3l _,A9,trivial⟩) Y Y Y Y Y ?_|exact Au|refine yC ?_ ?_|refine⟨λh=>?_⟩|refine D4 1 11 [(10,12)] [0,1,3,7,0,31,63,127,127,0,767,2047] ?_|refine Mz (id:=4) (m:=11) (ms:=[0,1,3,7,0,16,63,127,255,255,511,2047]) Ai [] 6 Ab Y Y Y Y Ab Ab Ab Y Y Y Y ?_|fail)
 all_goals first
  |exact A0 [3,6] Y Y Y (A3l _)
theorem Afw (i:Image) (r:Req) (x:MEntry) (S':MState) (n:Int) (hn:n≠0) (cn:A3z 100 [.agg (Af (Az i.m)),.agg (Af (Al x))] [] (.tuple [.agg (Af (Az S')),.t (.int .i64 n)]) []):A3z 69 [.ref 1 0,.agg (Af (Al x))] [(1,.cells (Af (Ao i++A7 r)))] (.tuple [.t (.slice .any 4 []),.t (H3 n)]) [(1,.cells (Af (Ao i++A7 r)))]:=by
 have cr:=Kb n hn;refine yG Tryz.func69 ?_
 repeat'(first|exact Au|refine yC ?_ ?_|refine⟨λh=>?_⟩|refine BA 4 11 ?_|refine D4 1 11 [(10,12)] [0,1,3,7,0,31,63,127,127,0,767,2047] ?_|fail)
 all_goals first
  |(exfalso;omega)
  |exact A0 [3,6] Y Y Y (As ⟨Ay,A3l _,trivial⟩)
def Tu (i:Image):Image:=GQ i (Gi i) (Rw i) (Xe i)
theorem Aan (i:Image) (r:Req) (ht:i.vQ=0\/i.vQ=1) (x:MEntry) (b:Bs) (hb:b.length<=1024) (K:Image) (S':MState) (hK:K=Dy i S') (hs:SmallI K) (hp:PlaceOk K) (cn:A3z 100 [.agg (Af (Az i.m)),.agg (Af (Al x))] [] (.tuple [.agg (Af (Az S')),.t (.int .i64 0)]) []) (cw:A3z 149 [.agg (Af (Al x))] [] (.tuple [.t (.str b),.t .nilIface]) []):A3z 78 [.ref 1 0,.agg (Af (Al x))] [(1,.cells (Af (Ao i++A7 r)))] (.tuple [.agg (Af (Bx ⟨Gn i.vQ b,Tu K⟩)),.t .nilIface]) [(1,.cells (Af (Ao K++A7 r)))]:=by
 have c1:=Afx i r ht x b hb S' cn cw;rw[<-hK]at c1;have c2:=GS K (Gn i.vQ b) hs hp;rw[show GQ K (Gi K) (Rw K) (Xe K)=Tu K from rfl]at c2;generalize Tu K=L at c2⊢;refine yG Tryz.func78 ?_
 repeat'(first|exact Au|refine yC ?_ ?_|refine⟨λh=>?_⟩|refine Mz (id:=1) (m:=9) (ms:=[0,1,3,0,15,31,63,63,127,511]) Ai [] 4 Ab Y Y Y Y Ab Ab Ab Y Y Y Y ?_|refine BT [(1,1)] [(58,26),(1,1)] c1 ?_|fail)
 all_goals first
  |exact A0 [3,4] Y Y Y (A3l _)
def O6:List T:=.slice .any 4 []::Ao Al1
theorem Aam (i:Image) (r:Req) (x:MEntry) (S':MState) (n:Int) (hn:n≠0) (cn:A3z 100 [.agg (Af (Az i.m)),.agg (Af (Al x))] [] (.tuple [.agg (Af (Az S')),.t (.int .i64 n)]) []):A3z 78 [.ref 1 0,.agg (Af (Al x))] [(1,.cells (Af (Ao i++A7 r)))] (.tuple [.agg (Af O6),.t (H3 n)]) [(1,.cells (Af (Ao i++A7 r)))]:=by
 have c1:=Afw i r x S' n hn cn;refine yG Tryz.func78 ?_
 repeat'(first|exact Au|refine yC ?_ ?_|refine⟨λh=>?_⟩|refine Mz (id:=1) (m:=9) (ms:=[0,1,3,0,15,31,63,63,127,511]) Ai [] 4 Ab Y Y Y Y Ab Ab Ab Y Y Y Y ?_|refine BT [(1,1)] [(1,1)] c1 ?_|fail)
 all_goals first
  |(refine A0 [3,4] Y Y Y (As ⟨AC ?_,A3l _,trivial⟩)
    exact AA)
def XM (i:Image) (lO:Int):Int:=match QH i.m lO with
 |some t=>(Aj i.m t).lT
 |none=>0
def F7 (i:Image) (lO ep:Int) (vV:Bool):Int:=if(lO<1\/i.m.vP<lO)\/(QH i.m lO).isSome≠vV then 200 else if ep≠XM i lO then 100 else 0
def Fi (i:Image) (lO ep:Int) (vV:Bool):Int:=if F7 i lO ep vV≠0 then 0 else match QH i.m lO with
 |some t=>t
 |none=> -1
theorem FK (i:Image) (lO ep:Int) (vV:Bool):A3z 16 [.agg (Af (Ao i)),.t (.int .i64 lO),.t (.int .i64 ep),.t (.bool vV)] [] (.tuple [.t (.int .i64 (Fi i lO ep vV)),.t (.int .i64 (F7 i lO ep vV))]) []:=by
 have co:=LP i.m lO
 have qM:QH i.m lO=none\/QH i.m lO=some 0\/QH i.m lO=some 1\/QH i.m lO=some 2:=by
  unfold QH;repeat' split
  all_goals simp
 unfold Fi F7 XM;rcases qM with h|h|h|h
 all_goals
  rw[h]at co⊢;simp only[Ry]at co;simp only[Aj,Int.reduceEq,Xs,ZF,Option.isSome];cases vV
 all_goals
  refine yF Tryz.func16 ?_
  repeat'(first|exact Au|refine yC ?_ ?_|refine⟨λh=>?_⟩|fail)
  all_goals first
   |(exfalso;simp_all;done)
   |(refine Ah Y (A3m ?_);simp_all;done)
   |(refine Ah Y (A3m ?_);simp_all;omega)
theorem Cn (i:Image) (r:Req) (n:Int) (hn:n≠0):A3z 79 [.ref 1 0,.t (.int .i64 n)] [(1,.cells (Af (Ao i++A7 r)))] (.tuple [.t (.slice .any 48 []),.agg (Af (Bw (BO 0 0))),.t (H3 n)]) [(1,.cells (Af (Ao i++A7 r)))]:=by
 have cr:=Kb n hn;refine yG Tryz.func79 ?_
 repeat'(first|exact Au|refine yC ?_ ?_|refine⟨λh=>?_⟩|fail)
 all_goals first
  |(refine A0 [5] Y Y Y (As ⟨Ay,AC ?_,A3l _,trivial⟩)
    exact AA)
def Atf (ft off:Nat):Prop:= ∀(pb po:Nat) (t:Addr) (n:Int) (old:Value) (w:World),w.cell? ⟨0,0,none⟩=some (.iface 233 (.agg #[.pointer (some ⟨4,98,none⟩)]))->w.cell? ⟨pb,po+off,none⟩=some (.iface 52 (.int .i64 n))->w.cell? t=some old->w.frozen? t=false->
 Calls Tryz.prog 59 #[.iface ft (.pointer (some ⟨pb,po,none⟩)),.iface 122 (.pointer (some t))] w λev w'=>ev=.returned (.bool true)/\ ∃o1 o2 o3 o4,w'=((((w.alloc o1).alloc o2).alloc o3).alloc o4).setCell t (.int .i64 n)
theorem Avm {ft off:Nat} (h:Atf ft off) (cs:List T) (n e0:Int) (bZ:cs[off]?=some (.iface 52 (.int .i64 n))):
  A3z 59 [.t (.iface ft (.ptr cs)),.iface 122 (.ref 1 0)] [(1,.cells [.t (.int .i64 e0)])] (.t (.bool true)) [(1,.cells [.t (.int .i64 n)])]:=by
 refine⟨⟨_,Tryz.func59,Y⟩,λvs w g hr hi=>?_⟩;obtain⟨aO,aJ⟩:=hr
 match vs,aO with
 |[v1,v2],_=>
  have r1:=Av (aJ 0 v1 _ Y Y);have r2:=aJ 1 v2 _ Y Y
  cases r1 with
  |iface _ p1 _ r1=>
   obtain⟨pb,po,rfl,hc⟩:=GR r1
   cases r2 with
   |iface _ p2 _ r2=>
    cases r2 with
    |ref _ _ aA hb=>
     obtain⟨aX,u,e,k1,k2,k3,k4,k5⟩:=hi.ok 1 _ Y;rw[hb]at k1;cases k1;have hu:u.size=1:=by rw[k4];rfl
     have hg:=(hi.im _ (A4h.2 Y)).2;obtain⟨_,_,x1,eC,jQ⟩:=hc off _ bZ
     have iB:x1=.iface 52 (.int .i64 n):=by
      cases jQ with
      |iface _ p _ h=>cases h;rfl
     subst iB;have ht:w.cell? ⟨aA,0,none⟩=some u[0]:=by simp[World.cell?,k3]
     have hf:w.frozen? ⟨aA,0,none⟩=false:=by simp[World.frozen?,k3]
     refine(h pb po ⟨aA,0,none⟩ n _ w hg eC ht hf).mono ?_;rintro ev w' ⟨rfl,o1,o2,o3,o4,rfl⟩;obtain⟨a1,a2,a3⟩:=Fs hi (More.alloc w o1);obtain⟨b1,b2,b3⟩:=Fs a2 (More.alloc _ o2);obtain⟨c1,c2,c3⟩:=Fs b2 (More.alloc _ o3);obtain⟨d1,d2,d3⟩:=Fs c2 (More.alloc _ o4)
     have hh:((((w.alloc o1).alloc o2).alloc o3).alloc o4).heap[aA]?=some (.cells u e (0,0)):=by
      have oG:=C9 k3;rw[(More.alloc _ o4).old aA (by simp;omega),(More.alloc _ o3).old aA (by simp;omega),(More.alloc _ o2).old aA (by simp;omega),(More.alloc _ o1).old aA oG];exact k3
     obtain⟨q1,q2,q3⟩:=Kh d2 (B:=.cells [.t (.int .i64 n)]) hb hh Ac (HP hh (.int .i64 n)) (λ_=>⟨_,Y⟩) (λ_=>⟨aA,_,e,hb,k2,(HP hh (.int .i64 n)).new,by simp[hu],λi v x hv hx=>by
      match i with
      |0=>simp[hu]at hv hx;subst hv;subst hx;exact .t _ _ (.int _ _)
      |i+1=>simp at hx⟩)
     exact⟨_,g,Y,(((a1.trans b1).trans c1).trans d1).trans q1,.t _ _ (.bool _),q2⟩
def Atd (ft off:Nat):Prop:= ∀(pb po:Nat) (n k:Int) (w:World),w.cell? ⟨pb,po+off,none⟩=some (.iface 52 (.int .i64 n))->
 Calls Tryz.prog 58 #[.iface ft (.pointer (some ⟨pb,po,none⟩)),.iface 52 (.int .i64 k)] w λev w'=>ev=.returned (.bool (decide (n=k)))/\w'=w
theorem Auz {ft off:Nat} (h:Atd ft off) (cs:List T) (n k:Int) (bZ:cs[off]?=some (.iface 52 (.int .i64 n))):
  A3z 58 [.t (.iface ft (.ptr cs)),.t (.iface 52 (.int .i64 k))] [] (.t (.bool (decide (n=k)))) []:=by
 refine⟨⟨_,Tryz.func58,Y⟩,λvs w g hr hi=>?_⟩;obtain⟨aO,aJ⟩:=hr
 match vs,aO with
 |[v1,v2],_=>
  have r1:=Av (aJ 0 v1 _ Y Y);have r2:=Av (aJ 1 v2 _ Y Y)
  cases r1 with
  |iface _ p1 _ r1=>
   obtain⟨pb,po,rfl,hc⟩:=GR r1
   cases r2 with
   |iface _ p2 _ r2=>
    cases r2;obtain⟨_,_,x1,eC,jQ⟩:=hc off _ bZ
    have iB:x1=.iface 52 (.int .i64 n):=by
     cases jQ with
     |iface _ p _ h=>cases h;rfl
    subst iB;refine(h pb po n k w eC).mono ?_;rintro ev w' ⟨rfl,rfl⟩;exact⟨_,g,Y,A3h _ _,.t _ _ (.bool _),hi⟩
theorem Avr:Atf 197 0:=λpb po t n old w h1 h2 h3 h4=>(Avq pb po t n old w h1 h2 h3 h4).mono λev w' h=>⟨h.1,_,_,_,_,h.2⟩
theorem Au3:Atd 197 0:=Au2
theorem Afy (n:Int):A3z 32 [.t (.iface 197 (.ptr [.iface 52 (.int .i64 n)]))] [] (.t (.int .i64 n)) []:=by
 have ci:=Auz Au3 [.iface 52 (.int .i64 n)] n 2 Y;by_cases h2:n=2
 ·subst h2;rw[A32 Y]at ci;refine yF Tryz.func32 ?_
  repeat'(first|exact Au|refine yC ?_ ?_|refine⟨λh=>?_⟩|fail)
  all_goals exact Ah Y (A3m Y)
 ·rw[A44 h2]at ci;refine yF Tryz.func32 ?_
  repeat'(first|exact Au|refine yC ?_ ?_|refine⟨λh=>?_⟩|refine BT [(6,1)] [(1,6)] (Avm Avr [.iface 52 (.int .i64 n)] n 0 Y) ?_|fail)
  all_goals exact Ah Y (A3m Y)
def W5 (L:Image) (mY:Int):Reply:={BO 0 0 with lO:=(Aj L.m mY).lO,lT:=(Aj L.m mY).lT}
theorem Ga {f:Nat} {k mY aP g q o:Int} {r:AV} {σ σ':St} (h:A3z f [.ref 1 0,.agg (Af (Ags k mY aP g q o))] σ r σ'):A3z f [.ref 1 0,.agg (Af (Aai k mY aP g q o))] σ r σ':=h.args ⟨A3l _,KY k mY aP g q o,trivial⟩
theorem Ahv (i K L:Image) (r:Req) (w:List Wr) (ht:0<=r.mY/\r.mY<3) (hk:(Aj i.m r.mY).state≠2) (cw:A3z 78 [.ref 1 0,.agg (Af (Al (e1 r.mY r.mZ)))] [(1,.cells (Af (Ao i++A7 r)))] (.tuple [.agg (Af (Bx ⟨w,L⟩)),.t .nilIface]) [(1,.cells (Af (Ao K++A7 r)))]):A3z 49 [.ref 1 0] [(1,.cells (Af (Ao i++A7 r)))] (.tuple [.t (.slice .any 48 [Bx ⟨w,L⟩]),.agg (Af (Bw (W5 L r.mY))),.t .nilIface]) [(1,.cells (Af (Ao K++A7 r)))]:=by
 obtain⟨kind,mY,aP,lO,ep,part,grp,off,most,oC,b⟩:=r;simp only at ht hk cw⊢;rw[HU]at cw;have cw:=Ga cw;rcases AH ht with rfl|rfl|rfl
 all_goals
  simp only[Aj,Int.reduceEq,Xs,ZF]at hk;refine yG Tryz.func49 ?_
  repeat'(first|exact Au|refine yC ?_ ?_|refine⟨λh=>?_⟩|refine BA 3 10 ?_|refine Mz (id:=6) (m:=17) (ms:=[0,0,2,6,14,30,0,64,192,448,960,2046,4095,8191,16383,16383,32767,131071]) Ai [(16,10)] 12 Ab Y Y Y Y Ab Ab Ab Y Y Y Y ?_|refine D4 10 8 [(8,6)] [0,1,0,4,0,16,60,3,255,511] ?_|refine BT [(1,1)] [(1,1)] cw ?_|fail)
  all_goals first
   |(exfalso;omega)
   |(refine A0 [3,5,9] Y Y Y (As ⟨A9,AC ?_,A3l _,trivial⟩)
     exact AA)
theorem VM (i:Image) (r:Req) (n:Int) (hn:n≠0) (he:F7 i r.b.lO r.b.lT r.b.vV=n):A3z 50 [.ref 1 0] [(1,.cells (Af (Ao i++A7 r)))] (.tuple [.t (.slice .any 48 []),.agg (Af (Bw (BO 0 0))),.t (H3 n)]) [(1,.cells (Af (Ao i++A7 r)))]:=by
 have cw:=FK i r.b.lO r.b.lT r.b.vV;rw[he]at cw;have cr:=Cn i r n hn;obtain⟨kind,mY,aP,lO,ep,part,grp,off,most,oC,⟨bp,be,bs,bt,brs⟩⟩:=r;simp only at cw cr⊢;generalize Fi i bp be bt=wt at cw;refine yG Tryz.func50 ?_
 repeat'(first|exact Au|refine yC ?_ ?_|refine⟨λh=>?_⟩|refine BA 2 15 ?_|refine BA 7 24 ?_|refine BA 12 2 ?_|refine BA 13 6 ?_|refine BA 17 4 ?_|refine D4 1 12 [(11,10)] [0,1,3,7,15,0,32,96,224,480,0,1055,4095] ?_|refine BT [(1,1)] [(1,1)] cr ?_|fail)
 all_goals first
  |(exfalso;omega)
  |exact A0 [3,5] Y Y Y (A3l _)
def A2e (l:Nat):Blk:=.mp [.int .i8 0,.int .i8 1,.int .i8 2,.int .i8 3,.int .i8 4,.int .i8 5,.int .i8 6,.int .i8 7,.int .i8 8,.int .i8 9] [.func (.func 48) [.ref l 0] [],.func (.func 49) [.ref l 0] [],.func (.func 50) [.ref l 0] [],.func (.func 51) [.ref l 0] [],.func (.func 52) [.ref l 0] [],.func (.func 53) [.ref l 0] [],.func (.func 54) [.ref l 0] [],.func (.func 55) [.ref l 0] [],.func (.func 56) [.ref l 0] [],.func (.func 57) [.ref l 0] []]
theorem Aa8 (cs:List AV):A3z 31 [.ref 1 0] [(1,.cells cs)] (.mref 6) [(6,A2e 1),(1,.cells cs)]:=by
 refine yG Tryz.func31 ?_
 repeat'(first|exact Au|refine yC ?_ ?_|refine⟨λh=>?_⟩|fail)
 all_goals first
  |exact A0 [] Y Y Y (A3l _)
