/- Contracts and laws, joined: Oa, Xi, Ob, Oc. No condition beside those that each theorem names. -/
import Derived.Test.YtmohpcgmdheafaaGreatDoorZXq
import Derived.Test.YtmohpcgmdheafaaGreatDoorZK4
set_option linter.unusedVariables false
set_option linter.unusedSimpArgs false
set_option maxRecDepth 100000
set_option maxHeartbeats 8000000
namespace Go.Proofs.YtmohpcgmdheafaaGreatDoor
open Go.Am
attribute [local irreducible] Decidable.decide Tr A2 hSK hSW
def e0:MEntry:=KZ 0
def e1 (tid tmo:Int):MEntry:={KZ 1 with tid:=tid,timeout:=tmo}
def e2 (tid:Int) (p:Pend):MEntry:={KZ 2 with tid:=tid,pend:=p}
def e5 (p:Pend):MEntry:={KZ 5 with pend:=p}
def Aso (k tid tmo g q o:Int):List T:=[.int .i8 k,.int .i64 tid,.int .i64 tmo,.int .i64 g,.int .i64 q,.int .i64 o,.bool false,.int .i64 0,.int .i8 0,.int .i64 0,.int .i64 0,.int .i64 0,.int .i64 0,.slice .any 1 [],.slice .any 3 [],.int .i64 0,.int .i64 0]
def Ar0 (k tid tmo g q o:Int):List T:=[.int .i8 k,.int .i64 tid,.int .i64 tmo,.int .i64 g,.int .i64 q,.int .i64 o,.bool false,.int .i64 0,.int .i8 0,.int .i64 0,.int .i64 0,.int .i64 0,.int .i64 0,.slice .nil 0 [],.slice .nil 0 [],.int .i64 0,.int .i64 0]
theorem Wu (k tid tmo g q o:Int):Sub (.agg (Ah (Ar0 k tid tmo g q o))) (.agg (Ah (Aso k tid tmo g q o))):=AA (show DU _ _ from⟨A1x _,A1x _,A1x _,A1x _,A1x _,A1x _,A1x _,A1x _,A1x _,A1x _,A1x _,A1x _,A1x _,Ak,Ak,A1x _,A1x _,trivial⟩)
theorem MU (tid tmo:Int):Ax (e1 tid tmo)=Aso 1 tid tmo 0 0 0:=rfl
theorem Abc (tid tmo:Int) (h1:0<=tid/\tid<3) (h2:1<=tmo/\tmo<=20):A17 128 [.agg (Ah (Ax (e1 tid tmo)))] [] (.t (.bool true)) []:=by
 have cs:A17 204 [.agg (Ah (Ax (e1 tid tmo))),.agg (Ah (Ar0 1 tid tmo 0 0 0))] [] (.t (.bool true)) []:=(Ah3 (e1 tid tmo) CZ).args ⟨A1x _,Wu 1 tid tmo 0 0 0,trivial⟩
 rw[MU]at cs⊢
 refine ct0 Ag Tryz.func128 Y false Y Y ?_
 repeat'(first|exact prB|refine stC ?_|refine stU (fun h=>?_) fun h=>?_|refine stN (fun b hb=>?_)|refine stE 16 6 ?_|refine stL ?_ (c:=cs)|fail)
 all_goals first
  |(exfalso;simp_all;done)
  |(exfalso;simp_all;omega)
  |exact Ai Y (AP (by simp_all))
theorem Afr (b:Bs) (e:MEntry) (lo hi:Int) (h0:0<=e.timeout) (hn:e.timeout<=1099511627776) (hb:b.length<=1000000000):A17 209 [.ref 1 0,.ref 3 2,.t (.int .i64 lo),.t (.int .i64 hi)] [(1,wM b),(3,.cells (Ah (Ax e)))] (.tuple []) [(1,wM (b++AY e.timeout.toNat)),(3,.cells (Ah (Ax e)))]:=by
 have cn:=DG b e.timeout h0 hn hb
 refine ct1 Ag Tryz.func209 Y Y ?_
 repeat'(first|exact prB|refine stC ?_|refine stU (fun h=>?_) fun h=>?_|refine stN (fun b hb=>?_)|refine stE 0 12 ?_|refine stL ?_ (c:=cn)|refine stM ?_ (c:=cn)|fail)
 exact AZ [] Y Y Y (A1x _)
theorem Aef (b:Bs) (e:MEntry) (h0:0<=e.tid) (hn:e.tid<=1000000) (h2:0<=e.timeout) (h3:e.timeout<=1000000) (hb:b.length<=1000):A17 281 [TD] [(1,wM b),(3,.cells (Ah (Ax e)))] (.tuple []) [(1,wM ((b++AY e.tid.toNat)++AY e.timeout.toNat)),(3,.cells (Ah (Ax e)))]:=by
 have l1:=AC (n:=e.tid.toNat) Aa
 have c1:=Vk b e h0 Aa Aa
 have c2:=Afr (b++AY e.tid.toNat) e 1 20 h2 Aa (by simp;omega)
 refine ct1 Ag Tryz.func281 Y Y ?_
 repeat'(first|exact prB|refine stC ?_|refine stU (fun h=>?_) fun h=>?_|refine stN (fun b hb=>?_)|refine stE 2 8 ?_|refine A0 Ag [(1,1),(3,3)] [(1,1),(3,3)] Y Y Y Y Y c1 Y Y Y Y Y ?_|refine A0 Ag [(1,1),(3,3)] [(1,1),(3,3)] Y Y Y Y Y c2 Y Y Y Y Y ?_|fail)
 exact AZ [1] Y Y Y (A1x _)
def mb1 (tid tmo:Int):Bs:=(AY 1++AY tid.toNat)++AY tmo.toNat
theorem Anp {k:Nat} (h:k<=8):(AY k).length<=6:=AC Aa
theorem Alv {tid tmo:Int} (h1:0<=tid/\tid<3) (h2:1<=tmo/\tmo<=20):(mb1 tid tmo).length<=1024:=by
 have l1:=AC (n:=tid.toNat) Aa
 have l2:=AC (n:=tmo.toNat) Aa
 have l3:=Anp (k:=1) Aa
 simp[mb1];omega
theorem Aiu (b:Bs) (tid tmo:Int) (h1:0<=tid/\tid<3) (h2:1<=tmo/\tmo<=20) (hb:b.length<=900):A17 210 [TD] [(1,wM b),(3,.cells (Ah (Ax (e1 tid tmo))))] (.tuple []) [(1,wM ((b++AY tid.toNat)++AY tmo.toNat)),(3,.cells (Ah (Ax (e1 tid tmo))))]:=by
 have hk:IntKind.i64.wrap 1=1:=by decide+kernel
 have cn:=Aef b (e1 tid tmo) h1.1 (show tid<=1000000 by omega) (show 0<=tmo by omega) (show tmo<=1000000 by omega) Aa
 rw[MU]at cn⊢
 refine ct1 Ag Tryz.func210 Y Y ?_
 repeat'(first|exact prB|refine stC ?_|refine stU (fun h=>?_) fun h=>?_|refine stN (fun b hb=>?_)|refine stE 4 4 ?_|rw[hk]|refine A0 Ag [(1,1),(3,3)] [(1,1),(3,3)] Y Y Y Y Y cn Y Y Y Y Y ?_|fail)
 all_goals first
  |(exfalso;simp_all;done)
  |exact AZ [1,2] Y Y Y (A1x _)
theorem Aca (tid tmo:Int) (h1:0<=tid/\tid<3) (h2:1<=tmo/\tmo<=20):A17 133 [.agg (Ah (Ax (e1 tid tmo)))] [] (.tuple [.t (.str (mb1 tid tmo)),.t .nilIface]) []:=by
 have hk:IntKind.i64.wrap 1=1:=by decide+kernel
 have cm:=Abc tid tmo h1 h2
 have c1:=Qq 1 0 7 Aa Aa
 have c2:=Aiu (AY 1) tid tmo h1 h2 (by have:=Anp (k:=1) Aa;omega)
 rw[MU]at cm c2⊢
 refine ct0 Ag Tryz.func133 Y false Y Y ?_
 repeat'(first|exact prB|refine stC ?_|refine stU (fun h=>?_) fun h=>?_|refine stN (fun b hb=>?_)|refine stE 8 8 ?_|rw[hk]|refine stL ?_ (c:=cm)|refine A0 Ag [(26,1),(10,3)] [(1,26),(3,10)] Y Y Y Y Y c1 Y Y Y Y Y ?_|refine A0 Ag [(26,1),(2,3)] [(1,26),(3,2)] Y Y Y Y Y c2 Y Y Y Y Y ?_|refine Ci Ag Y Y Y Y Y Y (B8 _).symm Y ?_|fail)
 all_goals first
  |(exfalso;simp_all;done)
  |exact Ai Y (A1y Y)
theorem Aci (c:Coord) (hc:SmallC c) (pid timeout:Int):A17 205 [.agg (Ah (A4 c)),.t (.int .i64 pid),.t (.int .i64 timeout)] [] (.tuple [.agg (Ah (A4 (I8 c pid timeout))),.t (.int .i64 (Kt c pid timeout))]) []:=by
 have key: ∀f,f=decide ((1<=pid/\pid<=8)/\(1<=timeout/\timeout<=20))->A17 31 [.agg (Ah (A4 c)),.t (.int .i8 0),.t (.bool f)] [] (.t (H6 c 0 (decide ((1<=pid/\pid<=8)/\(1<=timeout/\timeout<=20))))) []:=fun f hf=>by subst hf;exact IV c hc 0 _
 by_cases ha:decide ((1<=pid/\pid<=8)/\(1<=timeout/\timeout<=20))=false\/Bp c=false
 ·have e:Kt c pid timeout=2:=by unfold Kt;rw[show Fw c 0 _=2 from if_pos ha];simp
  have ec:I8 c pid timeout=BD:=by simp[I8,e]
  simp only[H6,if_pos ha]at key
  rw[e,ec]
  have cd:=Dy (.str [97,110,32,97,114,103,117,109,101,110,116]) 2
  refine ct0 Ag Tryz.func205 Y false Y Y ?_
  repeat'(first|exact prB|refine stC ?_|refine stU (fun h=>?_) fun h=>?_|refine stN (fun b hb=>?_)|refine stL ?_ (c:=key _ (by first|exact bI Aa|exact bT Aa|exact bF Aa))|refine stL ?_ (c:=cd)|fail)
  all_goals try(exfalso;omega)
  all_goals(refine Ai Y ?_;first|exact A1x _|exact Ap ⟨Cp,A1x _,trivial⟩)
 ·have hm:Bp c=true:=by
   cases h:Bp c with
   |true=>rfl
   |false=>exact absurd (.inr h) ha
  have hf:((1<=pid/\pid<=8)/\(1<=timeout/\timeout<=20)):=by
   cases h:decide ((1<=pid/\pid<=8)/\(1<=timeout/\timeout<=20))with
   |true=>simpa using h
   |false=>exact absurd (.inl h) ha
  cases hb:CY c.state 0 with
  |false=>
   have e:Kt c pid timeout=180:=by unfold Kt;rw[show Fw c 0 _=180 from(if_neg ha).trans (if_pos hb)];simp
   have ec:I8 c pid timeout=BD:=by simp[I8,e]
   simp only[H6,if_neg ha,hb,if_true]at key
   rw[e,ec]
   have cd:=Dy (.str [97,32,115,116,97,116,101]) 180
   refine ct0 Ag Tryz.func205 Y false Y Y ?_
   repeat'(first|exact prB|refine stC ?_|refine stU (fun h=>?_) fun h=>?_|refine stN (fun b hb=>?_)|refine stL ?_ (c:=key _ (by first|exact bI Aa|exact bT Aa|exact bF Aa))|refine stL ?_ (c:=cd)|fail)
   all_goals try(exfalso;omega)
   all_goals(refine Ai Y ?_;first|exact A1x _|exact Ap ⟨Cp,A1x _,trivial⟩)
  |true=>
   have hE0:Fw c 0 (decide ((1<=pid/\pid<=8)/\(1<=timeout/\timeout<=20)))=0:=(if_neg ha).trans (if_neg (by rw[hb];decide))
   simp only[H6,if_neg ha,hb,Bool.true_eq_false,if_false]at key
   by_cases hx:100<=c.epoch
   ·have e:Kt c pid timeout=102:=by unfold Kt;rw[hE0,if_pos hx];simp
    have ec:I8 c pid timeout=BD:=by simp[I8,e]
    rw[e,ec]
    have cd:=Dy (.str [97,110,32,101,112,111,99,104]) 102
    refine ct0 Ag Tryz.func205 Y false Y Y ?_
    repeat'(first|exact prB|refine CO 36 72 Y Y Y Y Y ?_|refine stC ?_|refine stU (fun h=>?_) fun h=>?_|refine stN (fun b hb=>?_)|refine stL ?_ (c:=key _ (by first|exact bI Aa|exact bT Aa|exact bF Aa))|refine stL ?_ (c:=cd)|fail)
    all_goals try(exfalso;omega)
    all_goals(refine Ai Y ?_;first|exact A1x _|exact Ap ⟨Cp,A1x _,trivial⟩)
   ·have e:Kt c pid timeout=0:=by unfold Kt;rw[hE0,if_neg hx];simp
    by_cases h0:c.state=0
    ·have ec:I8 c pid timeout=⟨1,pid,0,timeout,0,[],[],0⟩:=by simp[I8,e,h0]
     rw[e,ec]
     refine ct0 Ag Tryz.func205 Y false Y Y ?_
     repeat'(first|exact prB|refine stC ?_|refine stU (fun h=>?_) fun h=>?_|refine stN (fun b hb=>?_)|refine stL ?_ (c:=key _ (by first|exact bI Aa|exact bT Aa|exact bF Aa))|fail)
     all_goals try(exfalso;omega)
     all_goals(refine Ai Y ?_;repeat'(first|exact A1x _|exact Ak|exact Ar|exact trivial|refine AA ?_|refine Ap ?_|refine And.intro ?_ ?_))
    ·have ec:I8 c pid timeout=⟨1,c.pid,c.epoch+1,timeout,0,[],[],0⟩:=by simp[I8,e,h0]
     have hn:=DY (D2 hm h0)
     have hw:IntKind.i64.wrap (c.epoch+1)=c.epoch+1:=An Aa Aa
     rw[e,ec]
     refine ct0 Ag Tryz.func205 Y false Y Y ?_
     repeat'(first|exact prB|refine stC ?_|refine stU (fun h=>?_) fun h=>?_|refine stN (fun b hb=>?_)|refine stL ?_ (c:=key _ (by first|exact bI Aa|exact bT Aa|exact bF Aa))|refine BC (id:=9) (m:=7) (ms:=[0,1,0,4,12,3,35,127,255]) Ag [(6,20),(8,20)] Ab Y Y Y Y Ab Ab ?_|fail)
     all_goals try(exfalso;omega)
     all_goals(refine Ai Y ?_;simp only[hw];repeat'(first|exact A1x _|exact Ak|exact Ar|exact trivial|refine AA ?_|refine Ap ?_|refine And.intro ?_ ?_))
def VH (s:MState) (n:Int):MState:={s with made:=n}
theorem Adr (s:MState) (hs:SmallM s) (tid tmo:Int) (h1:0<=tid/\tid<3) (h0:(Av s tid).state=0) (hmd:0<=s.made/\s.made<8) (hi:Kt (Av s tid) (s.made+1) tmo=0):A17 130 [.ref 1 0,.agg (Ah (Ax (e1 tid tmo)))] [(1,.cells (Ah (A6 s)))] (.t .nilIface) [(1,.cells (Ah (A6 (VH (AO s tid (I8 (Av s tid) (s.made+1) tmo)) (s.made+1)))))]:=by
 have ci:=Aci (Av s tid) (hs.tid tid) (s.made+1) tmo
 rw[hi]at ci
 have hw:IntKind.i64.wrap (s.made+1)=s.made+1:=An Aa Aa
 rw[MU]
 rcases BB h1 with rfl|rfl|rfl
 all_goals
  simp only[Av,Int.reduceEq,if_true,if_false]at h0
  refine ct1 Ag Tryz.func130 Y Y ?_
  repeat'(first|exact prB|rw[hw]|refine stA ?_|refine Cj (fun _ _ _ _=>?_)|refine stU (fun h=>?_) fun h=>?_|refine Bu (fun _ _ _ _ _=>?_)|refine Ca ?_|refine Ff Ad ?_|refine Fd Ad ?_|refine Fe Ad Y ?_|refine stN (fun b hb=>?_)|refine stE 13 6 ?_|refine stE 38 10 ?_|refine stL ?_ (c:=ci)|refine BC (id:=1) (m:=8) (ms:=[0,0,2,1,9,31,63,0,255]) Ag [(8,10)] Ab Y Y Y Y Ab Ab ?_|refine BC (id:=20) (m:=6) (ms:=[0,0,2,0,1,17,63,127]) Ag [(7,1)] Ab Y Y Y Y Ab Ab ?_|fail)
  all_goals first
   |(exfalso;omega)
   |exact Ba [3,5] Y Y Y (A1x _)
theorem Ahg (s S':MState) (hs:SmallM s) (hs':SmallM S') (x:MEntry) (hm:BQ s=true) (hm':BQ S'=true) (cy:A17 128 [.agg (Ah (Ax x))] [] (.t (.bool true)) []) (cv:A17 130 [.ref 1 0,.agg (Ah (Ax x))] [(1,.cells (Ah (A6 s)))] (.t .nilIface) [(1,.cells (Ah (A6 S')))]):A17 71 [.agg (Ah (A6 s)),.agg (Ah (Ax x))] [] (.tuple [.agg (Ah (A6 S')),.t (.int .i64 0)]) []:=by
 have c0:=EP s hs.t0 hs.t1 hs.t2
 have c1:=EP _ hs'.t0 hs'.t1 hs'.t2
 rw[hm]at c0
 rw[hm']at c1
 have co:=Ve s hs.t0 hs.t1 hs.t2
 refine ct0 Ag Tryz.func71 Y false Y Y ?_
 repeat'(first|exact prB|refine stA ?_|refine Cj (fun _ _ _ _=>?_)|refine stU (fun h=>?_) fun h=>?_|refine Bu (fun _ _ _ _ _=>?_)|refine Ca ?_|refine Ff Ad ?_|refine Fd Ad ?_|refine Fe Ad Y ?_|refine stN (fun b hb=>?_)|refine stL ?_ (c:=c0)|refine stL ?_ (c:=c1)|refine stL ?_ (c:=cy)|refine stL ?_ (c:=co)|refine A0 Ag [(12,1)] [(1,12)] Y Y Y Y Y cv Y Y Y Y Y ?_|fail)
 all_goals first
  |(exfalso;simp_all;done)
  |exact Ai Y (A1y Y)
def Alk (n:Int):T:=.iface 155 (.ptr [.iface 45 (.int .i64 n)])
theorem YR (n:Int) (hn:n≠0):A17 37 [.t (.int .i64 n)] [] (.t (Alk n)) []:=by
 refine ct0 Ag Tryz.func37 Y false Y Y ?_
 repeat'(first|exact prB|refine CO 8 16 Y Y Y Y Y ?_|refine stC ?_|refine stU (fun h=>?_) fun h=>?_|refine stN (fun b hb=>?_)|fail)
 all_goals first
  |(exfalso;omega)
  |exact Ai Y (A1y Y)
theorem Adc (i:Image) (r:Req) (ht:i.tag=0\/i.tag=1) (x:MEntry) (b:Bs) (hb:b.length<=1024) (S':MState) (cn:A17 71 [.agg (Ah (A6 i.m)),.agg (Ah (Ax x))] [] (.tuple [.agg (Ah (A6 S')),.t (.int .i64 0)]) []) (cw:A17 133 [.agg (Ah (Ax x))] [] (.tuple [.t (.str b),.t .nilIface]) []):A17 35 [.ref 1 0,.agg (Ah (Ax x))] [(1,.cells (Ah (A1 i++BL r)))] (.tuple [.row 58 4 0 2,.t .nilIface]) [(58,.grow 4 ((Cy i.tag b).map AF)),(1,.cells (Ah (A1 (EC i S')++BL r)))]:=by
 have cp:=Vd i.tag ht x b hb cw
 refine ct1 Ag Tryz.func35 Y Y ?_
 repeat'(first|exact prB|refine stC ?_|refine stU (fun h=>?_) fun h=>?_|refine stN (fun b hb=>?_)|refine stM ?_ (c:=cn)|refine stL ?_ (c:=cn)|refine BC (id:=1) (m:=11) (ms:=[0,1,3,7,0,31,63,127,127,0,767,2047]) Ag [(10,12)] Ab Y Y Y Y Ab Ab ?_|refine NK (id:=4) (m:=11) (ms:=[0,1,3,7,0,16,63,127,255,255,511,2047]) Ag [] 6 Ab Y Y Y Y Ab Ab Ab Y Y Y Y ?_|refine A0 Ag [] [(102,58)] Y Y Y Y Y (cp.args ⟨A1x _,Ar,trivial⟩) Y Y Y Y Y ?_|fail)
 all_goals first
  |exact Ba [3,6] Y Y Y (A1x _)
def Ala (i:Image):Image:=BH i (pl0 i) (pl1 i) (pl2 i)
theorem YP (i:Image) (r:Req) (ht:i.tag=0\/i.tag=1) (x:MEntry) (b:Bs) (hb:b.length<=1024) (K:Image) (S':MState) (hK:K=EC i S') (hs:SmallI K) (hp:PlaceOk K) (cn:A17 71 [.agg (Ah (A6 i.m)),.agg (Ah (Ax x))] [] (.tuple [.agg (Ah (A6 S')),.t (.int .i64 0)]) []) (cw:A17 133 [.agg (Ah (Ax x))] [] (.tuple [.t (.str b),.t .nilIface]) []):A17 114 [.ref 1 0,.agg (Ah (Ax x))] [(1,.cells (Ah (A1 i++BL r)))] (.tuple [.agg (Ah (Di ⟨Cy i.tag b,Ala K⟩)),.t .nilIface]) [(1,.cells (Ah (A1 K++BL r)))]:=by
 have c1:=Adc i r ht x b hb S' cn cw
 rw[<-hK]at c1
 have c2:=L6 K (Cy i.tag b) hs hp
 rw[show BH K (pl0 K) (pl1 K) (pl2 K)=Ala K from rfl]at c2
 generalize Ala K=L at c2⊢
 refine ct1 Ag Tryz.func114 Y Y ?_
 repeat'(first|exact prB|refine stC ?_|refine stU (fun h=>?_) fun h=>?_|refine stN (fun b hb=>?_)|refine stL ?_ (c:=c2)|refine NK (id:=1) (m:=9) (ms:=[0,1,3,0,15,31,63,63,127,511]) Ag [] 4 Ab Y Y Y Y Ab Ab Ab Y Y Y Y ?_|refine A0 Ag [(1,1)] [(58,26),(1,1)] Y Y Y Y Y c1 Y Y Y Y Y ?_|fail)
 all_goals first
  |exact Ba [3,4] Y Y Y (A1x _)
def Aq5 (i:Image) (pid:Int):Int:=match ofM i.m pid with
 |some t=>(Av i.m t).epoch
 |none=>0
def Aks (i:Image) (pid ep:Int) (txn:Bool):Int:=if(pid<1\/i.m.made<pid)\/(ofM i.m pid).isSome≠txn then 200 else if ep≠Aq5 i pid then 100 else 0
def Aro (i:Image) (pid ep:Int) (txn:Bool):Int:=if Aks i pid ep txn≠0 then 0 else match ofM i.m pid with
 |some t=>t
 |none=> -1
theorem Arn (i:Image) (pid ep:Int) (txn:Bool):A17 115 [.agg (Ah (A1 i)),.t (.int .i64 pid),.t (.int .i64 ep),.t (.bool txn)] [] (.tuple [.t (.int .i64 (Aro i pid ep txn)),.t (.int .i64 (Aks i pid ep txn))]) []:=by
 have co:=KY i.m pid
 have hof:ofM i.m pid=none\/ofM i.m pid=some 0\/ofM i.m pid=some 1\/ofM i.m pid=some 2:=by
  unfold ofM;repeat' split
  all_goals simp
 unfold Aro Aks Aq5
 rcases hof with h|h|h|h
 all_goals
  rw[h]at co⊢
  simp only[ofR]at co
  simp only[Av,Int.reduceEq,if_true,if_false,Option.isSome]
  cases txn
 all_goals
  refine ct0 Ag Tryz.func115 Y false Y Y ?_
  repeat'(first|exact prB|refine stC ?_|refine stU (fun h=>?_) fun h=>?_|refine stN (fun b hb=>?_)|refine stL ?_ (c:=co)|fail)
  all_goals first
   |(exfalso;simp_all;done)
   |(refine Ai Y (A1y ?_);simp_all;done)
   |(refine Ai Y (A1y ?_);simp_all;omega)
theorem Zc (i:Image) (r:Req) (n:Int) (hn:n≠0):A17 116 [.ref 1 0,.t (.int .i64 n)] [(1,.cells (Ah (A1 i++BL r)))] (.tuple [.t (.slice .any 48 []),.agg (Ah (Fv (LS 0 0))),.t (Alk n)]) [(1,.cells (Ah (A1 i++BL r)))]:=by
 have cr:=YR n hn
 refine ct1 Ag Tryz.func116 Y Y ?_
 repeat'(first|exact prB|refine stC ?_|refine stU (fun h=>?_) fun h=>?_|refine stN (fun b hb=>?_)|refine stL ?_ (c:=cr)|fail)
 all_goals first
  |(refine Ba [5] Y Y Y (Ap ⟨Ak,AA ?_,A1x _,trivial⟩)
    (repeat'(first|exact A1x _|exact Ak|exact Ar|exact trivial|refine AA ?_|refine Ap ?_|refine And.intro ?_ ?_)))
end Go.Proofs.YtmohpcgmdheafaaGreatDoor
