/- Contracts and laws, joined: Wa, Gw, Gs. No condition beside those that each theorem names. -/
import Derived.Test.YthjoclecnacdiaaGreatDoorZM9
import Derived.Test.YthjoclecnacdiaaGreatDoorZM10
import Derived.Test.YthjoclecnacdiaaGreatDoorZQa
import Derived.Test.YthjoclecnacdiaaGreatDoorZKn
import Derived.Test.YthjoclecnacdiaaGreatDoorZJ5
import Derived.Test.YthjoclecnacdiaaGreatDoorZJ1
set_option linter.unusedVariables false
set_option linter.unusedSimpArgs false
namespace Go.Proofs.YthjoclecnacdiaaGreatDoor
open Go.Am
attribute [local irreducible] Decidable.decide
set_option maxRecDepth 100000
set_option maxHeartbeats 1000000
structure Req where
 kind:Int
 tid:Int
 timeout:Int
 pid:Int
 epoch:Int
 part:Int
 group:Int
 offset:Int
 most:Int
 yes:Bool
 b:Batch
 deriving DecidableEq
structure Reply where
 kind:Int
 e:Int
 pid:Int
 epoch:Int
 offset:Int
 rows:List Row
 deriving DecidableEq
structure Table where
 start:Int
 fin:Int
 new:List Int
 deriving DecidableEq
def EB:Batch:=⟨0,0,0,false,[]⟩
def FA (k:Int):Req:=⟨k,0,0,0,0,0,0,0,0,false,EB⟩
def C4 (k e:Int):Reply:=⟨k,e,0,0,0,[]⟩
def XO:Table:=⟨0,0,[]⟩
def BU (r:Req):List T:=.int .i8 r.kind:: .int .i64 r.tid:: .int .i64 r.timeout:: .int .i64 r.pid:: .int .i64 r.epoch:: .int .i64 r.part:: .int .i64 r.group:: .int .i64 r.offset:: .int .i64 r.most:: .bool r.yes::Bj r.b
def AH (r:Reply):List T:=[.int .i8 r.kind,.int .i64 r.e,.int .i64 r.pid,.int .i64 r.epoch,.int .i64 r.offset,.slice .any 5 (r.rows.map AK)]
def AN (t:Table):List T:=[.int .i64 t.start,.int .i64 t.fin,.slice .any 1 (t.new.map QV)]
def Bi (r:Req):Bool:=
 let part:=decide (0≤r.part∧r.part≤2)
 let group:=decide (0≤r.group∧r.group≤1)
 let offset:=decide (0≤r.offset∧r.offset≤1048576)
 let who:=decide ((1≤r.pid∧r.pid≤8)∧(0≤r.epoch∧r.epoch≤100))
 if r.kind=0 then true else if r.kind=9 then true
 else if r.kind=1 then decide ((0≤r.tid∧r.tid≤2)∧(1≤r.timeout∧r.timeout≤20))
 else if r.kind=2 then part&&B3 r.b
 else if r.kind=3 then who&&(group&&(part&&offset))
 else if r.kind=4 then who
 else if r.kind=5 then part&&(offset&&decide (1≤r.most∧r.most≤64))
 else if r.kind=6 then group&&(part&&offset)
 else if r.kind=7 then group&&part
 else if r.kind=8 then part&&offset
 else false
def DR (r:Req):Req:=
 let o:=FA r.kind
 if r.kind=1 then{o with tid:=r.tid,timeout:=r.timeout}
 else if r.kind=2 then{o with part:=r.part,b:=r.b}
 else if r.kind=3 then{o with pid:=r.pid,epoch:=r.epoch,group:=r.group,part:=r.part,offset:=r.offset}
 else if r.kind=4 then{o with pid:=r.pid,epoch:=r.epoch,yes:=r.yes}
 else if r.kind=5 then{o with part:=r.part,offset:=r.offset,most:=r.most,yes:=r.yes}
 else if r.kind=6 then{o with group:=r.group,part:=r.part,offset:=r.offset}
 else if r.kind=7 then{o with group:=r.group,part:=r.part}
 else if r.kind=8 then{o with part:=r.part,offset:=r.offset}
 else o
def B4 (r:Req):Bool:=Bi r&&decide (DR r=r)
def CF:Int→List Int→Bool
 |_,[]=>true
 |m,n::l=>decide (m≤n∧n≤1048576)&&CF n l
def Ck (t:Table):Bool:=decide ((0≤t.start∧t.start≤t.fin∧t.fin≤1048576)∧(t.new.length:Int)=t.fin-t.start+1)&&CF 0 t.new
def Bq (l:List Table):Bool:=decide (l.length=3)&&l.all Ck
def toE (t:Table) (n:Int):Int:=if Ck t=false then 2 else if n< -1∨(n≠ -1∧t.fin<n)then 130 else 0
def toN (t:Table) (n:Int):Int:=if Ck t=false then 0 else if n= -1 then-1 else if n< -1∨t.fin<n then 0 else(t.new[(if n-t.start<0 then 0 else n-t.start).toNat]?).getD 0
def B7 (r:Reply):Reply:=
 let o:=C4 r.kind r.e
 if r.e≠0 then o
 else if r.kind=0 then{o with pid:=r.pid}
 else if r.kind=1 then{o with pid:=r.pid,epoch:=r.epoch}
 else if r.kind=2∨r.kind=7 then{o with offset:=r.offset}
 else if r.kind=5 then{o with offset:=r.offset,rows:=r.rows}
 else o
def CE (w:Row):Bool:=LB w&&decide (-1≤w.offset∧w.offset≤1048576)
def CI (r:Reply):Bool:=
 if r.e≠0 then true
 else if r.kind=0∨r.kind=1 then decide ((1≤r.pid∧r.pid≤8)∧(0≤r.epoch∧r.epoch≤100))
 else if r.kind=2∨r.kind=7 then decide (-1≤r.offset∧r.offset≤1048576)
 else if r.kind=5 then decide ((0≤r.offset∧r.offset≤1048576)∧r.rows.length≤64)&&r.rows.all CE
 else true
def Bt (r:Reply):Bool:=decide ((0≤r.kind∧r.kind≤9)∧(0≤r.e∧r.e≤400))&&(decide (r=B7 r)&&CI r)
def Cs (l:List Table) (i:Int):Table:=(l[i.toNat]?).getD XO
def E7 (k:Int):Bool:=decide (k=3∨k=5∨k=6∨k=8)
def Hp (r:Req) (l:List Table):Int:=if B4 r=false∨Bq l=false then 2 else if E7 r.kind=true then toE (Cs l r.part) r.offset else 0
def GF (r:Req) (l:List Table):Req:=if Hp r l≠0 then FA 0 else if E7 r.kind=true then{r with offset:=toN (Cs l r.part) r.offset}else r
def Bn (t:Table) (w:Row):Row:={w with offset:=toN t w.offset}
def B6 (t:Table):List Row→Int
 |[]=>0
 |w::l=>if toE t w.offset≠0 then toE t w.offset else B6 t l
def Ch (r:Reply) (i:Int) (l:List Table):Int:=
 if Bt r=false∨Bq l=false∨i<0∨3≤i then 2
 else if r.e≠0∨ ¬(r.kind=2∨r.kind=5∨r.kind=7)then 0
 else if toE (Cs l i) r.offset≠0 then toE (Cs l i) r.offset else B6 (Cs l i) r.rows
def BT (r:Reply) (i:Int) (l:List Table):Reply:=
 if Ch r i l≠0 then C4 0 0
 else if r.e≠0∨ ¬(r.kind=2∨r.kind=5∨r.kind=7)then r
 else{r with offset:=toN (Cs l i) r.offset,rows:=r.rows.map (Bn (Cs l i))}
end Go.Proofs.YthjoclecnacdiaaGreatDoor
namespace Go.Proofs.YthjoclecnacdiaaGreatDoor
open Go.Am
attribute [local irreducible] Decidable.decide
set_option maxRecDepth 100000
set_option maxHeartbeats 1000000
section
variable {P:Program} {n:Nat} {env:Env} {σ:St} {K:Exit→Env→St→Prop}
theorem AP {a b:Code} (h: ∀K':Exit→Env→St→Prop,(∀e s,Tr P n b e s K→K' .normal e s)→(∀i e s,K (.exit i) e s→K' (.exit i) e s)→(∀e s,K .ret e s→K' .ret e s)→Tr P n a env σ K'):Tr P n (.seq a b) env σ K:=
 A9 (h _ (fun _ _ h=>h) (fun _ _ _ h=>h) (fun _ _ h=>h))
theorem AG {id:Nat} {b:Code} (h: ∀K':Exit→Env→St→Prop,(∀e s,K .normal e s→K' .normal e s)→(∀e s,K .normal e s→K' (.exit id) e s)→(∀i e s,Nat.beq i id=false→K (.exit i) e s→K' (.exit i) e s)→(∀e s,K .ret e s→K' .ret e s)→Tr P n b env σ K'):Tr P n (.block id b) env σ K:=
 Au (h _ (fun _ _ h=>h) (fun e s h=>by
  have:Nat.beq id id=true:=by simp
  simp only[this];exact h) (fun i e s hi h=>by simp only[hi];exact h) (fun _ _ h=>h))
theorem BH {x:Exit} {e:Env} {s:St} {Q:Env→St→Prop} {K':Exit→Env→St→Prop} (h: ∀e s,Q e s→K' x e s) (hk:Q e s):K' x e s:=h e s hk
theorem BF {i:Nat} {e:Env} {s:St} {Q:Nat→Env→St→Prop} {K':Exit→Env→St→Prop} (h: ∀i e s,Q i e s→K' (.exit i) e s) (hk:Q i e s):K' (.exit i) e s:=h i e s hk
theorem BG {i id:Nat} {e:Env} {s:St} {Q:Nat→Env→St→Prop} {K':Exit→Env→St→Prop} (h: ∀i e s,Nat.beq i id=false→Q i e s→K' (.exit i) e s) (hi:Nat.beq i id=false) (hk:Q i e s):K' (.exit i) e s:=h i e s hi hk
end
end Go.Proofs.YthjoclecnacdiaaGreatDoor
