/- Lemmas toward the law; each names its conditions. -/
import Derived.Test.YtppffhlbcgpgdaaGreatDoorYJ5
set_option linter.all false
set_option maxRecDepth 100000
set_option maxHeartbeats 8000000
namespace Go.Proofs.YtppffhlbcgpgdaaGreatDoor
open Go.Am
attribute [local irreducible] Decidable.decide
structure Req where
 kind:Int
 mY:Int
 mZ:Int
 lO:Int
 lT:Int
 part:Int
 sZ:Int
 offset:Int
 most:Int
 oC:Bool
 b:Batch
 deriving DecidableEq
structure Reply where
 kind:Int
 e:Int
 lO:Int
 lT:Int
 offset:Int
 rows:List Row
 deriving DecidableEq
structure Table where
 vR:Int
 fin:Int
 new:List Int
 deriving DecidableEq
def Nf:Batch:=⟨0,0,0,false,[]⟩
def Apx (k:Int):Req:=⟨k,0,0,0,0,0,0,0,0,false,Nf⟩
def BO (k e:Int):Reply:=⟨k,e,0,0,0,[]⟩
def A7 (r:Req):List T:=.int .i8 r.kind:: .int .i64 r.mY:: .int .i64 r.mZ:: .int .i64 r.lO:: .int .i64 r.lT:: .int .i64 r.part:: .int .i64 r.sZ:: .int .i64 r.offset:: .int .i64 r.most:: .bool r.oC::Ak r.b
def Bw (r:Reply):List T:=[.int .i8 r.kind,.int .i64 r.e,.int .i64 r.lO,.int .i64 r.lT,.int .i64 r.offset,.slice .any 5 (r.rows.map Aw)]
def B8 (r:Req):Bool:=
 let part:=decide (0<=r.part/\r.part<=2);let sZ:=decide (0<=r.sZ/\r.sZ<=1);let offset:=decide (0<=r.offset/\r.offset<=1048576);let who:=decide ((1<=r.lO/\r.lO<=8)/\(0<=r.lT/\r.lT<=100))
 if r.kind=0 then true else if r.kind=9 then true
 else if r.kind=1 then decide ((0<=r.mY/\r.mY<=2)/\(1<=r.mZ/\r.mZ<=20))
 else if r.kind=2 then part&&A4 r.b
 else if r.kind=3 then who&&(sZ&&(part&&offset))
 else if r.kind=4 then who
 else if r.kind=5 then part&&(offset&&decide (1<=r.most/\r.most<=64))
 else if r.kind=6 then sZ&&(part&&offset)
 else if r.kind=7 then sZ&&part
 else if r.kind=8 then part&&offset
 else false
def VQ (r:Req):Req:=
 let o:=Apx r.kind
 if r.kind=1 then{o with mY:=r.mY,mZ:=r.mZ}
 else if r.kind=2 then{o with part:=r.part,b:=r.b}
 else if r.kind=3 then{o with lO:=r.lO,lT:=r.lT,sZ:=r.sZ,part:=r.part,offset:=r.offset}
 else if r.kind=4 then{o with lO:=r.lO,lT:=r.lT,oC:=r.oC}
 else if r.kind=5 then{o with part:=r.part,offset:=r.offset,most:=r.most,oC:=r.oC}
 else if r.kind=6 then{o with sZ:=r.sZ,part:=r.part,offset:=r.offset}
 else if r.kind=7 then{o with sZ:=r.sZ,part:=r.part}
 else if r.kind=8 then{o with part:=r.part,offset:=r.offset}
 else o
def Fa (r:Req):Bool:=B8 r&&decide (VQ r=r)
structure Pend where
 sZ:Int
 part:Int
 offset:Int
 deriving DecidableEq
structure Coord where
 state:Int
 lO:Int
 lT:Int
 mZ:Int
 sA:Int
 parts:List Int
 rH:List Pend
 vZ:Int
 deriving DecidableEq
structure MState where
 vP:Int
 t0:Coord
 t1:Coord
 t2:Coord
 g00:Int
 g01:Int
 g02:Int
 g10:Int
 g11:Int
 g12:Int
 deriving DecidableEq
structure MEntry where
 kind:Int
 mY:Int
 mZ:Int
 vU:Pend
 oC:Bool
 sA:Int
 c:Coord
 next:Int
 deriving DecidableEq
structure Image where
 vQ:Int
 p0:Part
 p1:Part
 p2:Part
 m:MState
structure Step where
 w:List Wr
 i:Image
def Az0:Pend:=⟨0,0,0⟩
def BX:Coord:=⟨0,0,0,0,0,[],[],0⟩
def NO:MState:=⟨0,BX,BX,BX,0,0,0,0,0,0⟩
def A3 (p:Pend):List T:=[.int .i64 p.sZ,.int .i64 p.part,.int .i64 p.offset]
def AN (c:Coord):List T:=[.int .i8 c.state,.int .i64 c.lO,.int .i64 c.lT,.int .i64 c.mZ,.int .i64 c.sA,.slice .any 1 (c.parts.map Cy),.slice .any 3 (c.rH.map A3),.int .i64 c.vZ]
def Az (s:MState):List T:=.int .i64 s.vP::(AN s.t0++(AN s.t1++(AN s.t2++[.int .i64 s.g00,.int .i64 s.g01,.int .i64 s.g02,.int .i64 s.g10,.int .i64 s.g11,.int .i64 s.g12])))
def Al (e:MEntry):List T:=.int .i8 e.kind:: .int .i64 e.mY:: .int .i64 e.mZ:: .int .i64 e.vU.sZ:: .int .i64 e.vU.part:: .int .i64 e.vU.offset:: .bool e.oC:: .int .i64 e.sA::(AN e.c++[.int .i64 e.next])
def Ao (i:Image):List T:=.int .i8 i.vQ::(Ax i.p0++(Ax i.p1++(Ax i.p2++Az i.m)))
def Ci (s m:Int):Bool:=
 if s=0 then decide (m=0)
 else if s=2 then decide (m=1\/m=2\/m=4)
 else if s=1\/s=5\/s=6 then decide (m=0\/m=1\/m=2)
 else if s=3\/s=4 then decide (m=3)
 else false
def CU (q:Int):Bool:=decide (0<=q/\q<3)
def AZ (p:Pend):Bool:=decide ((0<=p.sZ/\p.sZ<2)/\(0<=p.part/\p.part<3)/\(0<=p.offset/\p.offset<=1048576))
def Gk:List Int->Bool
 |[]=>true
 |[_]=>true
 |a::b::r=>decide (a<b)&&Gk (b::r)
def Nj (a b:Pend):Bool:=decide (a.sZ<b.sZ\/(a.sZ=b.sZ/\a.part<b.part))
def CS:List Pend->Bool
 |[]=>true
 |[_]=>true
 |a::b::r=>Nj a b&&CS (b::r)
def CD (l:List Int):Bool:=Gk l&&l.all CU
def DJ (c:Coord):Bool:=
 c.rH.all AZ&&(decide ((1<=c.lO/\c.lO<=8)/\(0<=c.lT/\c.lT<=100)/\(1<=c.mZ/\c.mZ<=20)/\(0<=c.vZ/\c.vZ<=1048576))&&(CD c.parts&&CS c.rH))
def BD (c:Coord):Bool:=
 if c.state=0 then decide (c=BX)
 else if c.state=2 then(decide (¬(c.parts=[]/\c.rH=[]))&&decide (c.sA=0))&&DJ c
 else if c.state=3 then decide (c.sA=0)&&DJ c
 else if c.state=4 then decide ((0<=c.sA/\c.sA<=20)/\(0<c.sA->c.lT<100))&&DJ c
 else if c.state=1\/c.state=5\/c.state=6 then decide (c.sA=0/\c.vZ=0/\c.parts=[]/\c.rH=[])&&DJ c
 else false
def YW (c:Coord):Bool:=decide (c.state=2/\c.mZ<=c.vZ)
def MU (c:Coord) (oC:Bool):Bool:=if oC=true then decide (c.state=5)else decide (c.state=6)
def ER (c:Coord) (m:Int) (fit:Bool):Int:=if fit=false\/BD c=false then 2 else if Ci c.state m=false then 180 else 0
def EP (c:Coord) (lO mZ:Int):Int:=
 if ER c 0 (decide ((1<=lO/\lO<=8)/\(1<=mZ/\mZ<=20)))≠0 then ER c 0 (decide ((1<=lO/\lO<=8)/\(1<=mZ/\mZ<=20)))else if 100<=c.lT then 102 else 0
def Ek (c:Coord) (lO mZ:Int):Coord:=if EP c lO mZ≠0 then BX else if c.state=0 then⟨1,lO,0,mZ,0,[],[],0⟩else⟨1,c.lO,c.lT+1,mZ,0,[],[],0⟩
def G1 (p:Pend):List Pend->List Pend
 |[]=>[p]
 |a::r=>if Nj a p=true then a::G1 p r else if a.sZ=p.sZ/\a.part=p.part then p::r else p::a::r
def IW (c:Coord) (p:Pend):Int:=ER c 1 (AZ p)
def R6 (c:Coord) (p:Pend):Coord:=if IW c p≠0 then BX else{c with state:=2,rH:=G1 p c.rH}
def CN (c:Coord) (oC:Bool) (sA:Int):Int:=
 if ER c 2 (decide ((0<=sA/\sA<=20)/\(oC=true->sA=0)))≠0 then ER c 2 (decide ((0<=sA/\sA<=20)/\(oC=true->sA=0)))else if 0<sA/\100<=c.lT then 102 else 0
def CT (c:Coord) (oC:Bool) (sA:Int):Coord:=if CN c oC sA≠0 then BX else{c with state:=if oC=true then 3 else 4,sA:=sA}
def H4 (c:Coord) (l:List Int):Int:=if BD c=false\/CD l=false then 2 else if c.state=0/\l≠[]then 180 else 0
def DT (c:Coord) (l:List Int):Coord:=
 if H4 c l≠0 then BX
 else if c.state=3\/c.state=4 then{c with parts:=l}
 else if c.state=2 then(if l=[]/\c.rH=[]then{c with parts:=l,state:=1,vZ:=0}else{c with parts:=l})
 else if l≠[]then{c with parts:=l,state:=2}else{c with parts:=l}
def EK (c:Coord):Int:=ER c 3 true
def C3 (c:Coord):Coord:=if EK c≠0 then BX else if 0<c.sA then⟨1,c.lO,c.lT+1,c.sA,0,[],[],0⟩else⟨if c.state=4 then 6 else 5,c.lO,c.lT,c.mZ,0,[],[],0⟩
def DZ (c:Coord):Coord:=if ER c 4 true≠0 then c else{c with vZ:=if c.vZ+1<=1048576 then c.vZ+1 else 1048576}
def Aj (s:MState) (i:Int):Coord:=if i=0 then s.t0 else if i=1 then s.t1 else s.t2
def AO (s:MState) (i:Int) (c:Coord):MState:=if i=0 then{s with t0:=c}else if i=1 then{s with t1:=c}else{s with t2:=c}
def As3 (s:MState) (g q:Int):Int:=if g=0 then(if q=0 then s.g00 else if q=1 then s.g01 else s.g02)else(if q=0 then s.g10 else if q=1 then s.g11 else s.g12)
def Hw (s:MState) (g q n:Int):MState:=
 if g=0 then(if q=0 then{s with g00:=n}else if q=1 then{s with g01:=n}else{s with g02:=n})
 else(if q=0 then{s with g10:=n}else if q=1 then{s with g11:=n}else{s with g12:=n})
def CQ (s:MState):List Pend->MState
 |[]=>s
 |p::r=>CQ (Hw s p.sZ p.part p.offset) r
def HE (n:Int):Bool:=decide (-1<=n/\n<=1048576)
def FQ (c d:Coord):Bool:=decide (¬(c.lO≠0/\d.lO=c.lO))
def Bv (s:MState):Bool:=
 decide (0<=s.vP/\s.vP<=8)&&((BD s.t0&&decide (s.t0.lO<=s.vP))&&((BD s.t1&&decide (s.t1.lO<=s.vP))&&((BD s.t2&&decide (s.t2.lO<=s.vP))
  &&((FQ s.t1 s.t0&&(FQ s.t2 s.t0&&FQ s.t2 s.t1))&&(HE s.g00&&(HE s.g01&&(HE s.g02&&(HE s.g10&&(HE s.g11&&HE s.g12)))))))))
def D9 (k:Int):MEntry:=⟨k,0,0,Az0,false,0,BX,0⟩
def Adn (e:MEntry):MEntry:=
 if e.kind=1 then{D9 1 with mZ:=e.mZ,mY:=e.mY}
 else if e.kind=2 then{D9 2 with vU:=e.vU,mY:=e.mY}
 else if e.kind=3 then{D9 3 with oC:=e.oC,sA:=e.sA,mY:=e.mY}
 else if e.kind=4 then{D9 4 with mY:=e.mY}
 else if e.kind=5 then{D9 5 with vU:=e.vU}
 else if e.kind=6 then{D9 6 with c:=e.c,mY:=e.mY}
 else if e.kind=7 then{D9 7 with next:=e.next}
 else D9 e.kind
def X0 (e:MEntry):Bool:=
 if e.kind=0 then true
 else if e.kind=1 then decide (1<=e.mZ/\e.mZ<=20)&&CU e.mY
 else if e.kind=2 then AZ e.vU&&CU e.mY
 else if e.kind=3 then decide ((0<=e.sA/\e.sA<=20)/\(e.oC=true->e.sA=0))&&CU e.mY
 else if e.kind=4 then CU e.mY
 else if e.kind=5 then AZ e.vU
 else if e.kind=6 then(decide (e.c.parts=[])&&BD e.c)&&CU e.mY
 else if e.kind=7 then decide (0<=e.next/\e.next<=8)
 else false
def I4 (e:MEntry):Bool:=X0 e&&decide (e=Adn e)
def J4 (s:MState) (e:MEntry):Int:=
 let c:=Aj s e.mY
 if e.kind=0 then(if 8<=s.vP then 102 else 0)
 else if e.kind=1 then(if 8<(if c.state=0 then s.vP+1 else c.lO)then 102 else EP c (if c.state=0 then s.vP+1 else c.lO) e.mZ)
 else if e.kind=2 then IW c e.vU
 else if e.kind=3 then CN c e.oC e.sA
 else if e.kind=4 then EK c
 else 0
def EZ (s:MState) (e:MEntry):MState:=
 let c:=Aj s e.mY
 if e.kind=0 then{s with vP:=s.vP+1}
 else if e.kind=1 then(if c.state=0 then{AO s e.mY (Ek c (s.vP+1) e.mZ)with vP:=s.vP+1}else AO s e.mY (Ek c c.lO e.mZ))
 else if e.kind=2 then AO s e.mY (R6 c e.vU)
 else if e.kind=3 then AO s e.mY (CT c e.oC e.sA)
 else if e.kind=4 then(if c.state=3 then CQ (AO s e.mY (C3 c)) c.rH else AO s e.mY (C3 c))
 else if e.kind=5 then Hw s e.vU.sZ e.vU.part e.vU.offset
 else if e.kind=6 then AO s e.mY e.c
 else{s with vP:=e.next}
def Ej (s:MState) (e:MEntry):Int:=
 if Bv s=false\/I4 e=false then 2 else if J4 s e≠0 then J4 s e else if Bv (EZ s e)=false then 2 else 0
def HF (s:MState) (e:MEntry):MState:=if Ej s e≠0 then NO else EZ s e
def Ms (s:MState) (lO:Int) (i:Int):Bool:=decide (1<=lO/\(Aj s i).lO=lO)
def QH (s:MState) (lO:Int):Option Int:=if Ms s lO 0=true then some 0 else if Ms s lO 1=true then some 1 else if Ms s lO 2=true then some 2 else none
def IU (s:MState):MState:=if Bv s=false then s else{s with t0:=DZ s.t0,t1:=DZ s.t1,t2:=DZ s.t2}
def TA (s:MState):List Int:=if Bv s=false then[]else(if YW s.t0=true then[0]else[])++((if YW s.t1=true then[1]else[])++(if YW s.t2=true then[2]else[]))
def Aor:MState:=⟨0,BX,BX,BX,-1,-1,-1,-1,-1,-1⟩
section
variable {P:Program} {n:Nat} {env:A2} {σ:St} {K:Exit->A2->St->Prop}
theorem B9 {a b:Code} (h: ∀K':Exit->A2->St->Prop,(∀e s,Tr P n b e s K->K' .normal e s)->(∀i e s,K (.exit i) e s->K' (.exit i) e s)->(∀e s,K .ret e s->K' .ret e s)->Tr P n a env σ K'):Tr P n (.seq a b) env σ K:=
 HA (h _ (λ_ _ h=>h) (λ_ _ _ h=>h) (λ_ _ h=>h))
theorem AY {id:Nat} {b:Code} (h: ∀K':Exit->A2->St->Prop,(∀e s,K .normal e s->K' .normal e s)->(∀e s,K .normal e s->K' (.exit id) e s)->(∀i e s,Nat.beq i id=false->K (.exit i) e s->K' (.exit i) e s)->(∀e s,K .ret e s->K' .ret e s)->Tr P n b env σ K'):Tr P n (.block id b) env σ K:=
 Vs (h _ (λ_ _ h=>h) (λe s h=>by
  have:Nat.beq id id=true:=Ac
  simp only[this];exact h) (λi e s hi h=>by simp only[hi];exact h) (λ_ _ h=>h))
theorem Dw {x:Exit} {e:A2} {s:St} {Q:A2->St->Prop} {K':Exit->A2->St->Prop} (h: ∀e s,Q e s->K' x e s) (hk:Q e s):K' x e s:=h e s hk
theorem Du {i:Nat} {e:A2} {s:St} {Q:Nat->A2->St->Prop} {K':Exit->A2->St->Prop} (h: ∀i e s,Q i e s->K' (.exit i) e s) (hk:Q i e s):K' (.exit i) e s:=h i e s hk
theorem Dv {i id:Nat} {e:A2} {s:St} {Q:Nat->A2->St->Prop} {K':Exit->A2->St->Prop} (h: ∀i e s,Nat.beq i id=false->Q i e s->K' (.exit i) e s) (hi:Nat.beq i id=false) (hk:Q i e s):K' (.exit i) e s:=h i e s hi hk
end
