/- Contracts and laws, joined: Oe, Of, Nr. No condition beside those that each theorem names. -/
import Derived.Test.YtmohpcgmdheafaaGreatDoorZK21
import Derived.Test.YtmohpcgmdheafaaGreatDoorZK20
import Derived.Test.YtmohpcgmdheafaaGreatDoorZK17
set_option linter.unusedVariables false
set_option linter.unusedSimpArgs false
set_option maxRecDepth 100000
set_option maxHeartbeats 8000000
namespace Go.Proofs.YtmohpcgmdheafaaGreatDoor
open Go.Am
attribute [local irreducible] Decidable.decide Tr A2 hSK hSW
theorem Adg (i K:Image) (r r':Req) (hs:SmallI i) (hl:r.b.recs.length<=1000000) (hc:C8 i=true) (cm:A17 25 [.agg (Ah (BL r))] [] (.t (.bool true)) []) (hk:r.kind=1) (ss:List (List T)) (y:Reply) (cb:A17 55 [.ref 1 0] [(1,.cells (Ah (A1 i++BL r)))] (.tuple [.t (.slice .any 48 ss),.agg (Ah (Fv y)),.t .nilIface]) [(1,.cells (Ah (A1 K++BL r')))]):A17 12 [.agg (Ah (A1 i)),.agg (Ah (BL r))] [] (.tuple [.t (.slice .any 48 ss),.agg (Ah (Fv {y with kind:=1})),.t (.int .i64 0)]) []:=by
 have cc:=G9 i hs
 rw[hc,if_pos Y]at cc
 have ci:=O2 i hs
 have cr:=Abm r hl
 have ct:=Ry (Ah (A1 i++BL r))
 have ce:=fun n=>Tu n
 obtain⟨kind,tid,tmo,pid,ep,part,grp,off,most,yes,b⟩:=r
 simp only at hk cc cm ci cr ct cb
 subst hk
 refine ct0 Ag Tryz.func12 Y false Y Y ?_
 repeat'(first|exact prB|refine stC ?_|refine stU (fun h=>?_) fun h=>?_|refine stN (fun b hb=>?_)|refine stE 3 3 ?_|refine stE 11 3 ?_|refine stL ?_ (c:=cc)|refine stL ?_ (c:=cm)|refine stM ?_ (c:=ci)|refine stL ?_ (c:=cr)|refine stL ?_ (c:=ci)|refine stM ?_ (c:=cr)|refine stM ?_ (c:=ce _)|refine stL ?_ (c:=ce _)|refine BC (id:=9) (m:=6) (ms:=[0,1,0,4,15,12,63,127]) Ag [(6,10)] Ab Y Y Y Y Ab Ab ?_|refine BC (id:=11) (m:=3) (ms:=[0,0,1,7,15]) Ag [(3,10)] Ab Y Y Y Y Ab Ab ?_|refine A0 Ag [(54,1)] [(6,60),(1,54)] Y Y Y Y Y ct Y Y Y Y Y ?_|refine A0 Ag [(54,1)] [(1,54)] Y Y Y Y Y cb Y Y Y Y Y ?_|refine VJ (f:=10) Ag Y Y ?_|refine LD (by decide+kernel) ?_|refine CR (i:=0) (by decide+kernel) Y ?_|refine CR (i:=1) (by decide+kernel) Y ?_|refine CR (i:=2) (by decide+kernel) Y ?_|refine CR (i:=3) (by decide+kernel) Y ?_|refine CR (i:=4) (by decide+kernel) Y ?_|refine CR (i:=5) (by decide+kernel) Y ?_|refine CR (i:=6) (by decide+kernel) Y ?_|refine CR (i:=7) (by decide+kernel) Y ?_|refine CR (i:=8) (by decide+kernel) Y ?_|refine CR (i:=9) (by decide+kernel) Y ?_|refine E5 (i:=0) (j:=2) (by decide+kernel) Y Y ?_ ?_|refine E5 (i:=1) (j:=2) (by decide+kernel) Y Y ?_ ?_|refine E5 (i:=0) (j:=3) (by decide+kernel) Y Y ?_ ?_|refine E5 (i:=1) (j:=3) (by decide+kernel) Y Y ?_ ?_|refine E5 (i:=6) (j:=7) (by decide+kernel) Y Y ?_ ?_|refine E5 (i:=7) (j:=8) (by decide+kernel) Y Y ?_ ?_|refine E5 (i:=6) (j:=9) (by decide+kernel) Y Y ?_ ?_|refine E5 (i:=8) (j:=9) (by decide+kernel) Y Y ?_ ?_|fail)
 all_goals first
  |(exfalso;simp_all;done)
  |(refine Ai Y (Ap ⟨Ak,AA ?_,A1x _,trivial⟩)
    (repeat'(first|exact A1x _|exact Ak|exact Ar|exact trivial|refine AA ?_|refine Ap ?_|refine And.intro ?_ ?_)))
  |exact Ai Y (A1y Y)
theorem Adf (i K:Image) (r r':Req) (hs:SmallI i) (hl:r.b.recs.length<=1000000) (hc:C8 i=true) (cm:A17 25 [.agg (Ah (BL r))] [] (.t (.bool true)) []) (hk:r.kind=2) (n:Int) (cb:A17 56 [.ref 1 0] [(1,.cells (Ah (A1 i++BL r)))] (.tuple [.t (.slice .any 48 []),.agg (Ah (Fv (LS 0 0))),.t (Alk n)]) [(1,.cells (Ah (A1 K++BL r')))]):A17 12 [.agg (Ah (A1 i)),.agg (Ah (BL r))] [] (.tuple [.t (.slice .any 48 []),.agg (Ah (Fv (LS 2 n))),.t (.int .i64 0)]) []:=by
 have cc:=G9 i hs
 rw[hc,if_pos Y]at cc
 have ci:=O2 i hs
 have cr:=Abm r hl
 have ct:=Ry (Ah (A1 i++BL r))
 have ce:=fun n=>Tu n
 obtain⟨kind,tid,tmo,pid,ep,part,grp,off,most,yes,b⟩:=r
 simp only at hk cc cm ci cr ct cb
 subst hk
 refine ct0 Ag Tryz.func12 Y false Y Y ?_
 repeat'(first|exact prB|refine stC ?_|refine stU (fun h=>?_) fun h=>?_|refine stN (fun b hb=>?_)|refine stE 3 3 ?_|refine stE 11 3 ?_|refine stL ?_ (c:=cc)|refine stL ?_ (c:=cm)|refine stM ?_ (c:=ci)|refine stL ?_ (c:=cr)|refine stL ?_ (c:=ci)|refine stM ?_ (c:=cr)|refine stM ?_ (c:=ce _)|refine stL ?_ (c:=ce _)|refine BC (id:=9) (m:=6) (ms:=[0,1,0,4,15,12,63,127]) Ag [(6,10)] Ab Y Y Y Y Ab Ab ?_|refine BC (id:=11) (m:=3) (ms:=[0,0,1,7,15]) Ag [(3,10)] Ab Y Y Y Y Ab Ab ?_|refine A0 Ag [(54,1)] [(6,60),(1,54)] Y Y Y Y Y ct Y Y Y Y Y ?_|refine A0 Ag [(54,1)] [(1,54)] Y Y Y Y Y cb Y Y Y Y Y ?_|refine VJ (f:=10) Ag Y Y ?_|refine LD (by decide+kernel) ?_|refine CR (i:=0) (by decide+kernel) Y ?_|refine CR (i:=1) (by decide+kernel) Y ?_|refine CR (i:=2) (by decide+kernel) Y ?_|refine CR (i:=3) (by decide+kernel) Y ?_|refine CR (i:=4) (by decide+kernel) Y ?_|refine CR (i:=5) (by decide+kernel) Y ?_|refine CR (i:=6) (by decide+kernel) Y ?_|refine CR (i:=7) (by decide+kernel) Y ?_|refine CR (i:=8) (by decide+kernel) Y ?_|refine CR (i:=9) (by decide+kernel) Y ?_|refine E5 (i:=0) (j:=2) (by decide+kernel) Y Y ?_ ?_|refine E5 (i:=1) (j:=2) (by decide+kernel) Y Y ?_ ?_|refine E5 (i:=0) (j:=3) (by decide+kernel) Y Y ?_ ?_|refine E5 (i:=1) (j:=3) (by decide+kernel) Y Y ?_ ?_|refine E5 (i:=6) (j:=7) (by decide+kernel) Y Y ?_ ?_|refine E5 (i:=7) (j:=8) (by decide+kernel) Y Y ?_ ?_|refine E5 (i:=6) (j:=9) (by decide+kernel) Y Y ?_ ?_|refine E5 (i:=8) (j:=9) (by decide+kernel) Y Y ?_ ?_|fail)
 all_goals first
  |(exfalso;simp_all;done)
  |(refine Ai Y (Ap ⟨Ak,AA ?_,A1x _,trivial⟩)
    (repeat'(first|exact A1x _|exact Ak|exact Ar|exact trivial|refine AA ?_|refine Ap ?_|refine And.intro ?_ ?_)))
  |exact Ai Y (A1y Y)
def im0:Image:=⟨0,CS,CS,CS,K2⟩
def st1:MState:=⟨1,⟨1,1,0,5,0,[],[],0⟩,BD,BD,-1,-1,-1,-1,-1,-1⟩
def im1:Image:=⟨0,CS,CS,CS,st1⟩
def rq1:Req:={Ac1 1 with timeout:=5}
def rq2:Req:={Ac1 2 with b:=⟨1,0,0,false,[⟨[],[]⟩]⟩}
theorem Ip:AR CS:=⟨by simp[CS],by simp[CS],by simp[CS],by simp[CS],by simp[CS]⟩
theorem Agg:SmallI im0:=⟨Ip,Ip,Ip,CZ,CZ,CZ⟩
theorem Agf:SmallI im1:=⟨Ip,Ip,Ip,⟨by simp[im1,st1],by simp[im1,st1]⟩,CZ,CZ⟩
theorem Aya:Ala im1=im1:=Ab
theorem Asa:PlaceOk im1:=⟨by decide+kernel,by decide+kernel,by decide+kernel⟩
theorem Ayw:VH (AO K2 0 (I8 (Av K2 0) (K2.made+1) 5)) (K2.made+1)=st1:=by decide+kernel
theorem Ajl:C8 im0=true:=by decide+kernel
theorem Atg:C8 im1=true:=by decide+kernel
theorem Ayo:A17 25 [.agg (Ah (BL rq1))] [] (.t (.bool true)) []:=by
 have h:=Aat rq1 Ae (Ar3 rq1 Y Ae)
 rwa[show Hh rq1=true by decide+kernel]at h
theorem Ayn:A17 25 [.agg (Ah (BL rq2))] [] (.t (.bool true)) []:=by
 have h:=Aat rq2 Ae (Ar2 rq2 Y Ae)
 rwa[show Hh rq2=true by decide+kernel]at h
theorem Ahl:A17 71 [.agg (Ah (A6 K2)),.agg (Ah (Ax (e1 0 5)))] [] (.tuple [.agg (Ah (A6 st1)),.t (.int .i64 0)]) []:=by
 have cv:=Adr K2 ⟨CZ,CZ,CZ⟩ 0 5 Ae Y Ae (by decide+kernel)
 rw[Ayw]at cv
 exact Ahg K2 st1 ⟨CZ,CZ,CZ⟩ ⟨⟨by simp[st1],by simp[st1]⟩,CZ,CZ⟩ (e1 0 5) (by decide+kernel) (by decide+kernel) (Abc 0 5 Ae Ae) cv
def Arx:Step:=⟨Cy 0 (mb1 0 5),im1⟩
theorem Ade:A17 12 [.agg (Ah (A1 im0)),.agg (Ah (BL rq1))] [] (.tuple [.t (.slice .any 48 [Di Arx]),.agg (Ah (Fv ⟨1,0,1,0,0,[]⟩)),.t (.int .i64 0)]) []:=by
 have cw:=YP im0 rq1 (.inl Y) (e1 0 5) (mb1 0 5) (Alv Ae Ae) im1 st1 Y Agf Asa Ahl (Aca 0 5 Ae Ae)
 rw[Aya]at cw
 have cb:=Ae0 im0 im1 im1 rq1 (Cy 0 (mb1 0 5)) Ae Ae cw
 exact Adg im0 im1 rq1 rq1 Agg Ae Ajl Ayo Y [Di Arx] (Ajw im1 0) cb
theorem Wx:A17 12 [.agg (Ah (A1 im1)),.agg (Ah (BL rq2))] [] (.tuple [.t (.slice .any 48 []),.agg (Ah (Fv (LS 2 200))),.t (.int .i64 0)]) []:=
 Adf im1 im1 rq2 rq2 Agf Ae Atg Ayn Y 200 (UQ im1 rq2 200 Ae (by decide+kernel))
def Ayg:List T:=[.int .i64 0,.int .i8 0,.int .i64 0,.int .i64 0,.int .i64 0,.int .i64 0,.slice .nil 0 [],.slice .nil 0 [],.int .i64 0,.int .i8 0,.int .i64 0,.int .i64 0,.int .i64 0,.int .i64 0,.slice .nil 0 [],.slice .nil 0 [],.int .i64 0,.int .i8 0,.int .i64 0,.int .i64 0,.int .i64 0,.int .i64 0,.slice .nil 0 [],.slice .nil 0 [],.int .i64 0,.int .i64 (-1),.int .i64 (-1),.int .i64 (-1),.int .i64 (-1),.int .i64 (-1),.int .i64 (-1)]
theorem Aio:A17 11 [] [] (.agg (Ah Ayg)) []:=Amy Ag Vv 20 Y (fun _=>rfl) Ab
def Ar1:List T:=[.int .i8 0,.int .i64 0,.int .i64 0,.slice .nil 0 [],.slice .nil 0 [],.slice .nil 0 [],.int .i64 0,.int .i64 0,.slice .nil 0 [],.slice .nil 0 [],.slice .nil 0 [],.int .i64 0,.int .i64 0,.slice .nil 0 [],.slice .nil 0 [],.slice .nil 0 []]++Ayg
def Aq3:List T:=[.int .i8 1,.int .i64 0,.int .i64 5,.int .i64 0,.int .i64 0,.int .i64 0,.int .i64 0,.int .i64 0,.int .i64 0,.bool false,.int .i64 0,.int .i64 0,.int .i64 0,.bool false,.slice .nil 0 []]
def Aq2:List T:=[.int .i8 2,.int .i64 0,.int .i64 0,.int .i64 0,.int .i64 0,.int .i64 0,.int .i64 0,.int .i64 0,.int .i64 0,.bool false,.int .i64 1,.int .i64 0,.int .i64 0,.bool false,.slice .full 2 [[.str [],.str []]]]
theorem Wv:Sub (.agg (Ah Ar1)) (.agg (Ah (A1 im0))):=by
 refine AA ?_
 (repeat'(first|exact A1x _|exact Ak|exact Ar|exact trivial|refine AA ?_|refine Ap ?_|refine And.intro ?_ ?_))
theorem Ac7:Sub (.agg (Ah Aq3)) (.agg (Ah (BL rq1))):=by
 refine AA ?_
 (repeat'(first|exact A1x _|exact Ak|exact Ar|exact trivial|refine AA ?_|refine Ap ?_|refine And.intro ?_ ?_))
theorem Ac6:Sub (.agg (Ah Aq2)) (.agg (Ah (BL rq2))):=by
 refine AA ?_
 (repeat'(first|exact A1x _|exact Ak|exact Ar|exact trivial|refine AA ?_|refine Ap ?_|refine And.intro ?_ ?_))
theorem Yo:A17 5 [] [] (.t (.bool true)) []:=by
 have cf:=Aio
 have cc:=G9 im0 Agg
 rw[Ajl,if_pos Y]at cc
 have c3:A17 13 [.agg (Ah Ar1)] _ _ _:=cc.args ⟨Wv,trivial⟩
 have c1:A17 12 [.agg (Ah Ar1),.agg (Ah Aq3)] _ _ _:=Ade.args ⟨Wv,Ac7,trivial⟩
 have c2:A17 12 [.agg (Ah (A1 im1)),.agg (Ah Aq2)] _ _ _:=Wx.args ⟨A1x _,Ac6,trivial⟩
 refine ct0 Ag Tryz.func5 Y false Y Y ?_
 repeat'(first|exact prB|refine stC ?_|refine stU (fun h=>?_) fun h=>?_|refine stN (fun b hb=>?_)|refine stL ?_ (c:=cf)|refine stL ?_ (c:=c1)|refine stL ?_ (c:=c2)|refine stL ?_ (c:=c3)|fail)
 all_goals try(exfalso;clear c1 c2 c3 cc cf;simp_all[Arx,Cy,LS];done)
 all_goals first
  |exact Ai Y (AP Ac)
end Go.Proofs.YtmohpcgmdheafaaGreatDoor
namespace Go.Proofs.YtmohpcgmdheafaaGreatDoor
open Go.Am
attribute [local irreducible] Decidable.decide
theorem Wy (i:Image) (hst:StM i.m) (tid:Int) (yes:Bool) (thn:Int):A17 3 [.agg (Ah (A1 i)),.t (.int .i64 tid),.t (.bool yes),.t (.int .i64 thn)] [] (.t (.bool true)) []:=UW Yo i hst tid yes thn
end Go.Proofs.YtmohpcgmdheafaaGreatDoor
