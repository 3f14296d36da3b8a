/- Contracts and laws, joined: Wa, Xa, Gw, Gs. No condition beside those that each theorem names. -/
import Derived.Test.YtmohpcgmdheafaaGreatDoorZJ5
set_option linter.unusedVariables false
set_option linter.unusedSimpArgs false
set_option maxRecDepth 100000
set_option maxHeartbeats 8000000
namespace Go.Proofs.YtmohpcgmdheafaaGreatDoor
open Go.Am
attribute [local irreducible] Decidable.decide
structure Req where
 kind:Int
 tid:Int
 timeout:Int
 pid:Int
 epoch:Int
 part:Int
 group:Int
 offset:Int
 most:Int
 yes:Bool
 b:Batch
 deriving DecidableEq
structure Reply where
 kind:Int
 e:Int
 pid:Int
 epoch:Int
 offset:Int
 rows:List Row
 deriving DecidableEq
structure Table where
 start:Int
 fin:Int
 new:List Int
 deriving DecidableEq
def Mp:Batch:=⟨0,0,0,false,[]⟩
def Ac1 (k:Int):Req:=⟨k,0,0,0,0,0,0,0,0,false,Mp⟩
def LS (k e:Int):Reply:=⟨k,e,0,0,0,[]⟩
def BL (r:Req):List T:=.int .i8 r.kind:: .int .i64 r.tid:: .int .i64 r.timeout:: .int .i64 r.pid:: .int .i64 r.epoch:: .int .i64 r.part:: .int .i64 r.group:: .int .i64 r.offset:: .int .i64 r.most:: .bool r.yes::Au r.b
def Fv (r:Reply):List T:=[.int .i8 r.kind,.int .i64 r.e,.int .i64 r.pid,.int .i64 r.epoch,.int .i64 r.offset,.slice .any 5 (r.rows.map A8)]
def HI (r:Req):Bool:=
 let part:=decide (0<=r.part/\r.part<=2)
 let group:=decide (0<=r.group/\r.group<=1)
 let offset:=decide (0<=r.offset/\r.offset<=1048576)
 let who:=decide ((1<=r.pid/\r.pid<=8)/\(0<=r.epoch/\r.epoch<=100))
 if r.kind=0 then true else if r.kind=9 then true
 else if r.kind=1 then decide ((0<=r.tid/\r.tid<=2)/\(1<=r.timeout/\r.timeout<=20))
 else if r.kind=2 then part&&A9 r.b
 else if r.kind=3 then who&&(group&&(part&&offset))
 else if r.kind=4 then who
 else if r.kind=5 then part&&(offset&&decide (1<=r.most/\r.most<=64))
 else if r.kind=6 then group&&(part&&offset)
 else if r.kind=7 then group&&part
 else if r.kind=8 then part&&offset
 else false
def UZ (r:Req):Req:=
 let o:=Ac1 r.kind
 if r.kind=1 then{o with tid:=r.tid,timeout:=r.timeout}
 else if r.kind=2 then{o with part:=r.part,b:=r.b}
 else if r.kind=3 then{o with pid:=r.pid,epoch:=r.epoch,group:=r.group,part:=r.part,offset:=r.offset}
 else if r.kind=4 then{o with pid:=r.pid,epoch:=r.epoch,yes:=r.yes}
 else if r.kind=5 then{o with part:=r.part,offset:=r.offset,most:=r.most,yes:=r.yes}
 else if r.kind=6 then{o with group:=r.group,part:=r.part,offset:=r.offset}
 else if r.kind=7 then{o with group:=r.group,part:=r.part}
 else if r.kind=8 then{o with part:=r.part,offset:=r.offset}
 else o
def Hh (r:Req):Bool:=HI r&&decide (UZ r=r)
structure Pend where
 group:Int
 part:Int
 offset:Int
 deriving DecidableEq
structure Coord where
 state:Int
 pid:Int
 epoch:Int
 timeout:Int
 thn:Int
 parts:List Int
 pends:List Pend
 age:Int
 deriving DecidableEq
structure MState where
 made:Int
 t0:Coord
 t1:Coord
 t2:Coord
 g00:Int
 g01:Int
 g02:Int
 g10:Int
 g11:Int
 g12:Int
 deriving DecidableEq
structure MEntry where
 kind:Int
 tid:Int
 timeout:Int
 pend:Pend
 yes:Bool
 thn:Int
 c:Coord
 next:Int
 deriving DecidableEq
structure Image where
 tag:Int
 p0:Part
 p1:Part
 p2:Part
 m:MState
structure Step where
 w:List Wr
 i:Image
def Ayk:Pend:=⟨0,0,0⟩
def BD:Coord:=⟨0,0,0,0,0,[],[],0⟩
def Alu:MState:=⟨0,BD,BD,BD,0,0,0,0,0,0⟩
def AB (p:Pend):List T:=[.int .i64 p.group,.int .i64 p.part,.int .i64 p.offset]
def A4 (c:Coord):List T:=[.int .i8 c.state,.int .i64 c.pid,.int .i64 c.epoch,.int .i64 c.timeout,.int .i64 c.thn,.slice .any 1 (c.parts.map Bz),.slice .any 3 (c.pends.map AB),.int .i64 c.age]
def A6 (s:MState):List T:=.int .i64 s.made::(A4 s.t0++(A4 s.t1++(A4 s.t2++[.int .i64 s.g00,.int .i64 s.g01,.int .i64 s.g02,.int .i64 s.g10,.int .i64 s.g11,.int .i64 s.g12])))
def Ax (e:MEntry):List T:=.int .i8 e.kind:: .int .i64 e.tid:: .int .i64 e.timeout:: .int .i64 e.pend.group:: .int .i64 e.pend.part:: .int .i64 e.pend.offset:: .bool e.yes:: .int .i64 e.thn::(A4 e.c++[.int .i64 e.next])
def A1 (i:Image):List T:=.int .i8 i.tag::(AD i.p0++(AD i.p1++(AD i.p2++A6 i.m)))
def CY (s m:Int):Bool:=
 if s=0 then decide (m=0)
 else if s=2 then decide (m=1\/m=2\/m=4)
 else if s=1\/s=5\/s=6 then decide (m=0\/m=1\/m=2)
 else if s=3\/s=4 then decide (m=3)
 else false
def CJ (q:Int):Bool:=decide (0<=q/\q<3)
def Cc (p:Pend):Bool:=decide ((0<=p.group/\p.group<2)/\(0<=p.part/\p.part<3)/\(0<=p.offset/\p.offset<=1048576))
def DX:List Int->Bool
 |[]=>true
 |[_]=>true
 |a::b::r=>decide (a<b)&&DX (b::r)
def ltP (a b:Pend):Bool:=decide (a.group<b.group\/(a.group=b.group/\a.part<b.part))
def Hd:List Pend->Bool
 |[]=>true
 |[_]=>true
 |a::b::r=>ltP a b&&Hd (b::r)
def BR (l:List Int):Bool:=DX l&&l.all CJ
def DZ (c:Coord):Bool:=
 c.pends.all Cc&&(decide ((1<=c.pid/\c.pid<=8)/\(0<=c.epoch/\c.epoch<=100)/\(1<=c.timeout/\c.timeout<=20)/\(0<=c.age/\c.age<=1048576))&&(BR c.parts&&Hd c.pends))
def Bp (c:Coord):Bool:=
 if c.state=0 then decide (c=BD)
 else if c.state=2 then(decide (¬(c.parts=[]/\c.pends=[]))&&decide (c.thn=0))&&DZ c
 else if c.state=3 then decide (c.thn=0)&&DZ c
 else if c.state=4 then decide ((0<=c.thn/\c.thn<=20)/\(0<c.thn->c.epoch<100))&&DZ c
 else if c.state=1\/c.state=5\/c.state=6 then decide (c.thn=0/\c.age=0/\c.parts=[]/\c.pends=[])&&DZ c
 else false
def Fw (c:Coord) (m:Int) (fit:Bool):Int:=if fit=false\/Bp c=false then 2 else if CY c.state m=false then 180 else 0
def Kt (c:Coord) (pid timeout:Int):Int:=
 if Fw c 0 (decide ((1<=pid/\pid<=8)/\(1<=timeout/\timeout<=20)))≠0 then Fw c 0 (decide ((1<=pid/\pid<=8)/\(1<=timeout/\timeout<=20)))else if 100<=c.epoch then 102 else 0
def I8 (c:Coord) (pid timeout:Int):Coord:=if Kt c pid timeout≠0 then BD else if c.state=0 then⟨1,pid,0,timeout,0,[],[],0⟩else⟨1,c.pid,c.epoch+1,timeout,0,[],[],0⟩
def Cb (c:Coord) (yes:Bool) (thn:Int):Int:=
 if Fw c 2 (decide ((0<=thn/\thn<=20)/\(yes=true->thn=0)))≠0 then Fw c 2 (decide ((0<=thn/\thn<=20)/\(yes=true->thn=0)))else if 0<thn/\100<=c.epoch then 102 else 0
def C9 (c:Coord) (yes:Bool) (thn:Int):Coord:=if Cb c yes thn≠0 then BD else{c with state:=if yes=true then 3 else 4,thn:=thn}
def Fq (c:Coord) (l:List Int):Int:=if Bp c=false\/BR l=false then 2 else if c.state=0/\l≠[]then 180 else 0
def Ed (c:Coord) (l:List Int):Coord:=
 if Fq c l≠0 then BD
 else if c.state=3\/c.state=4 then{c with parts:=l}
 else if c.state=2 then(if l=[]/\c.pends=[]then{c with parts:=l,state:=1,age:=0}else{c with parts:=l})
 else if l≠[]then{c with parts:=l,state:=2}else{c with parts:=l}
def DH (c:Coord):Int:=Fw c 3 true
def Cd (c:Coord):Coord:=if DH c≠0 then BD else if 0<c.thn then⟨1,c.pid,c.epoch+1,c.thn,0,[],[],0⟩else⟨if c.state=4 then 6 else 5,c.pid,c.epoch,c.timeout,0,[],[],0⟩
def Av (s:MState) (i:Int):Coord:=if i=0 then s.t0 else if i=1 then s.t1 else s.t2
def AO (s:MState) (i:Int) (c:Coord):MState:=if i=0 then{s with t0:=c}else if i=1 then{s with t1:=c}else{s with t2:=c}
def IY (s:MState) (g q n:Int):MState:=
 if g=0 then(if q=0 then{s with g00:=n}else if q=1 then{s with g01:=n}else{s with g02:=n})
 else(if q=0 then{s with g10:=n}else if q=1 then{s with g11:=n}else{s with g12:=n})
def BI (s:MState):List Pend->MState
 |[]=>s
 |p::r=>BI (IY s p.group p.part p.offset) r
def Gz (n:Int):Bool:=decide (-1<=n/\n<=1048576)
def EA (c d:Coord):Bool:=decide (¬(c.pid≠0/\d.pid=c.pid))
def BQ (s:MState):Bool:=
 decide (0<=s.made/\s.made<=8)&&((Bp s.t0&&decide (s.t0.pid<=s.made))&&((Bp s.t1&&decide (s.t1.pid<=s.made))&&((Bp s.t2&&decide (s.t2.pid<=s.made))
  &&((EA s.t1 s.t0&&(EA s.t2 s.t0&&EA s.t2 s.t1))&&(Gz s.g00&&(Gz s.g01&&(Gz s.g02&&(Gz s.g10&&(Gz s.g11&&Gz s.g12)))))))))
def KZ (k:Int):MEntry:=⟨k,0,0,Ayk,false,0,BD,0⟩
def TC (s:MState) (pid:Int) (i:Int):Bool:=decide (1<=pid/\(Av s i).pid=pid)
def ofM (s:MState) (pid:Int):Option Int:=if TC s pid 0=true then some 0 else if TC s pid 1=true then some 1 else if TC s pid 2=true then some 2 else none
def K2:MState:=⟨0,BD,BD,BD,-1,-1,-1,-1,-1,-1⟩
section
variable {P:Program} {n:Nat} {env:Env} {σ:St} {K:Exit->Env->St->Prop}
theorem Cj {a b:Code} (h: ∀K':Exit->Env->St->Prop,(∀e s,Tr P n b e s K->K' .normal e s)->(∀i e s,K (.exit i) e s->K' (.exit i) e s)->(∀e s,K .ret e s->K' .ret e s)->Tr P n a env σ K'):Tr P n (.seq a b) env σ K:=
 Ik (h _ (fun _ _ h=>h) (fun _ _ _ h=>h) (fun _ _ h=>h))
theorem Bu {id:Nat} {b:Code} (h: ∀K':Exit->Env->St->Prop,(∀e s,K .normal e s->K' .normal e s)->(∀e s,K .normal e s->K' (.exit id) e s)->(∀i e s,Nat.beq i id=false->K (.exit i) e s->K' (.exit i) e s)->(∀e s,K .ret e s->K' .ret e s)->Tr P n b env σ K'):Tr P n (.block id b) env σ K:=
 Ms (h _ (fun _ _ h=>h) (fun e s h=>by
  have:Nat.beq id id=true:=by simp
  simp only[this];exact h) (fun i e s hi h=>by simp only[hi];exact h) (fun _ _ h=>h))
theorem Ff {x:Exit} {e:Env} {s:St} {Q:Env->St->Prop} {K':Exit->Env->St->Prop} (h: ∀e s,Q e s->K' x e s) (hk:Q e s):K' x e s:=h e s hk
theorem Fd {i:Nat} {e:Env} {s:St} {Q:Nat->Env->St->Prop} {K':Exit->Env->St->Prop} (h: ∀i e s,Q i e s->K' (.exit i) e s) (hk:Q i e s):K' (.exit i) e s:=h i e s hk
theorem Fe {i id:Nat} {e:Env} {s:St} {Q:Nat->Env->St->Prop} {K':Exit->Env->St->Prop} (h: ∀i e s,Nat.beq i id=false->Q i e s->K' (.exit i) e s) (hi:Nat.beq i id=false) (hk:Q i e s):K' (.exit i) e s:=h i e s hi hk
end
end Go.Proofs.YtmohpcgmdheafaaGreatDoor
