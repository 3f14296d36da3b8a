/- Contracts of plans: the step that ends a transactional id. -/
import Derived.Test.YtmohpcgmdheafaaGreatDoorZXn
import Derived.Test.YtmohpcgmdheafaaGreatDoorZXu
set_option linter.unusedVariables false
set_option linter.unusedSimpArgs false
set_option maxRecDepth 100000
set_option maxHeartbeats 8000000
namespace Go.Proofs.YtmohpcgmdheafaaGreatDoor
open Go.Am
attribute [local irreducible] Decidable.decide Tr A2 hSK hSW
theorem Arr {P:Program} {n id:Nat} {ops:Array Oper} {d:Bool} {env:Env} {σ:St} {K:Exit->Env->St->Prop} (b:Nat) (hl:(Go.Am.look σ b).isSome=true) (hb:WB b=false) (h:Tr P n (.region id ops d) (Fs b env) (CP b σ) K):Tr P n (.region id ops d) env σ K:=Tr.killOne b hb h
def BH (i:Image) (a b c:Coord):Image:={i with m:={i.m with t0:=a,t1:=b,t2:=c}}
def pl0 (i:Image):Coord:=Ed i.m.t0 (AH i i.m.t0.pid)
def pl1 (i:Image):Coord:=Ed i.m.t1 (AH i i.m.t1.pid)
def pl2 (i:Image):Coord:=Ed i.m.t2 (AH i i.m.t2.pid)
theorem IX {c:Coord} (h:SmallC c) (l:List Int) (hl:l.length<=1000000):SmallC (Ed c l):=by
 unfold Ed
 repeat' split
 all_goals first
  |exact CZ
  |exact⟨hl,h.pends⟩
theorem Ck (i:Image) (pid:Int):(AH i pid).length<=3:=by
 unfold AH;repeat' split
 all_goals simp
structure PlaceOk (i:Image):Prop where
 e0:Fq i.m.t0 (AH i i.m.t0.pid)=0
 e1:Fq i.m.t1 (AH i i.m.t1.pid)=0
 e2:Fq i.m.t2 (AH i i.m.t2.pid)=0
theorem UR (i:Image) (hs:SmallI i) (hp:PlaceOk i):A17 80 [.agg (Ah (A1 i))] [] (.tuple [.agg (Ah (A1 (BH i (pl0 i) (pl1 i) (pl2 i)))),.t (.int .i64 0)]) []:=by
 have s0:SmallI (BH i (pl0 i) i.m.t1 i.m.t2):=⟨hs.p0,hs.p1,hs.p2,IX hs.t0 _ (by have:=Ck i i.m.t0.pid;omega),hs.t1,hs.t2⟩
 have s1:SmallI (BH i (pl0 i) (pl1 i) i.m.t2):=⟨hs.p0,hs.p1,hs.p2,s0.t0,IX hs.t1 _ (by have:=Ck i i.m.t1.pid;omega),hs.t2⟩
 have w0:=Ij i i.m.t0.pid hs
 have w1:=Ij (BH i (pl0 i) i.m.t1 i.m.t2) i.m.t1.pid s0
 have w2:=Ij (BH i (pl0 i) (pl1 i) i.m.t2) i.m.t2.pid s1
 have p0:=LJ i.m.t0 hs.t0 (AH i i.m.t0.pid) (by have:=Ck i i.m.t0.pid;omega)
 have p1:=LJ i.m.t1 hs.t1 (AH i i.m.t1.pid) (by have:=Ck i i.m.t1.pid;omega)
 have p2:=LJ i.m.t2 hs.t2 (AH i i.m.t2.pid) (by have:=Ck i i.m.t2.pid;omega)
 rw[hp.e0]at p0;rw[hp.e1]at p1;rw[hp.e2]at p2
 have hw0:IntKind.i64.wrap (0+1)=1:=by decide+kernel
 have hw1:IntKind.i64.wrap (1+1)=2:=by decide+kernel
 have hw2:IntKind.i64.wrap (2+1)=3:=by decide+kernel
 refine ct0 Ag Tryz.func80 Y false Y Y ?_
 repeat'(first|exact prB|refine Arr (id:=5) 12 Y Y ?_|rw[hw0]|rw[hw1]|rw[hw2]|refine stC ?_|refine stU (fun h=>?_) fun h=>?_|refine stN (fun b hb=>?_)|refine stM ?_ (c:=w0)|refine stM ?_ (c:=w1)|refine stM ?_ (c:=w2)|refine stM ?_ (c:=p0)|refine stM ?_ (c:=p1)|refine stM ?_ (c:=p2)|refine BC (id:=5) (m:=11) (ms:=[0,0,0,4,14,31,63,127,127,0,767,2047]) Ag [(10,12)] Ab Y Y Y Y Ab Ab ?_|refine AN 5 ?_|refine AQ ?_|fail)
 all_goals first
  |exact Ai Y (A1y Y)
def Di (s:Step):List T:=.slice .any 4 (s.w.map AF)::A1 s.i
theorem L6 (i:Image) (w:List Wr) (hs:SmallI i) (hp:PlaceOk i):A17 38 [.agg (Ah (A1 i)),.t (.slice .any 4 (w.map AF))] [] (.tuple [.agg (Ah (Di ⟨w,BH i (pl0 i) (pl1 i) (pl2 i)⟩)),.t .nilIface]) []:=by
 have cp:=UR i hs hp
 refine ct0 Ag Tryz.func38 Y false Y Y ?_
 repeat'(first|exact prB|refine stC ?_|refine stU (fun h=>?_) fun h=>?_|refine stN (fun b hb=>?_)|refine stL ?_ (c:=cp)|fail)
 all_goals first
  |exact Ai Y (A1y Y)
def EC (i:Image) (m:MState):Image:={i with m:=m}
theorem UT (i:Image) (ht:i.tag=0\/i.tag=1) (hs:SmallM i.m) (tid:Int) (yes:Bool) (thn:Int) (h1:0<=tid/\tid<3) (h2:(0<=thn/\thn<=20)/\(yes=true->thn=0)) (hp:Cb (Av i.m tid) yes thn=0) (hm:BQ i.m=true) (hm':BQ (AO i.m tid (C9 (Av i.m tid) yes thn))=true):A17 35 [.ref 1 0,.agg (Ah (Ax (e3 tid yes thn)))] [(1,.cells (Ah (A1 i)))] (.tuple [.row 58 4 0 2,.t .nilIface]) [(58,.grow 4 ((Cy i.tag (mb3 tid yes thn)).map AF)),(1,.cells (Ah (A1 (EC i (AO i.m tid (C9 (Av i.m tid) yes thn))))))]:=by
 have cn:=Ahi i.m hs tid yes thn h1 h2 hp hm hm'
 have cp:=Vd i.tag ht (e3 tid yes thn) (mb3 tid yes thn) (Aa8 h1 h2.1) (Ab9 tid yes thn h1 h2)
 generalize AO i.m tid (C9 (Av i.m tid) yes thn)=S' at cn⊢
 refine ct1 Ag Tryz.func35 Y Y ?_
 repeat'(first|exact prB|refine stC ?_|refine stU (fun h=>?_) fun h=>?_|refine stN (fun b hb=>?_)|refine stM ?_ (c:=cn)|refine stL ?_ (c:=cn)|refine BC (id:=1) (m:=11) (ms:=[0,1,3,7,0,31,63,127,127,0,767,2047]) Ag [(10,12)] Ab Y Y Y Y Ab Ab ?_|refine NK (id:=4) (m:=11) (ms:=[0,1,3,7,0,16,63,127,255,255,511,2047]) Ag [] 6 Ab Y Y Y Y Ab Ab Ab Y Y Y Y ?_|refine A0 Ag [] [(102,58)] Y Y Y Y Y (cp.args ⟨A1x _,Ar,trivial⟩) Y Y Y Y Y ?_|fail)
 all_goals first
  |exact Ba [3,6] Y Y Y (A1x _)
theorem US (i:Image) (ht:i.tag=0\/i.tag=1) (hs:SmallM i.m) (tid:Int) (h1:0<=tid/\tid<3) (hp:DH (Av i.m tid)=0) (hq:(Av i.m tid).pends.all Cc=true) (hm:BQ i.m=true) (hm':BQ (D4 i.m tid)=true):A17 35 [.ref 1 0,.agg (Ah (Ax (e4 tid)))] [(1,.cells (Ah (A1 i)))] (.tuple [.row 58 4 0 2,.t .nilIface]) [(58,.grow 4 ((Cy i.tag (mb4 tid)).map AF)),(1,.cells (Ah (A1 (EC i (D4 i.m tid)))))]:=by
 have cn:=Ahh i.m hs tid h1 hp hq hm hm'
 have cp:=Vd i.tag ht (e4 tid) (mb4 tid) (Aa7 h1) (Ab8 tid h1)
 generalize D4 i.m tid=S' at cn⊢
 refine ct1 Ag Tryz.func35 Y Y ?_
 repeat'(first|exact prB|refine stC ?_|refine stU (fun h=>?_) fun h=>?_|refine stN (fun b hb=>?_)|refine stM ?_ (c:=cn)|refine stL ?_ (c:=cn)|refine BC (id:=1) (m:=11) (ms:=[0,1,3,7,0,31,63,127,127,0,767,2047]) Ag [(10,12)] Ab Y Y Y Y Ab Ab ?_|refine NK (id:=4) (m:=11) (ms:=[0,1,3,7,0,16,63,127,255,255,511,2047]) Ag [] 6 Ab Y Y Y Y Ab Ab Ab Y Y Y Y ?_|refine A0 Ag [] [(102,58)] Y Y Y Y Y (cp.args ⟨A1x _,Ar,trivial⟩) Y Y Y Y Y ?_|fail)
 all_goals first
  |exact Ba [3,6] Y Y Y (A1x _)
end Go.Proofs.YtmohpcgmdheafaaGreatDoor
