/- The data of the program, and their trees. -/
import Derived.Test.YtppffhlbcgpgdaaGreatDoorYN2
set_option linter.all false
namespace Go.Am
theorem A1 {n:Int} (h1: -9223372036854775808<=n) (h2:n<9223372036854775808):IntKind.i64.wrap n=n:=by
 simp[IntKind.wrap,IntKind.bits,IntKind.signed];omega
theorem AB {α:Type} {l:List α} {i:Nat} {x:α} (h:l[i]?=some x):l.take (i+1)=l.take i++[x]:=by
 rw[List.take_add_one,h];rfl
theorem bT {p:Prop} [Decidable p] (h:p):true=decide p:=by simp[h]
theorem bF {p:Prop} [Decidable p] (h: ¬p):false=decide p:=by simp[h]
theorem bI {p q:Prop} [Decidable p] [Decidable q] (h:p↔q):decide p=decide q:=by simp[h]
theorem Nw {α:Type} {a b:List α} {i:Nat} {x y:α} (ha:a[i]?=some x) (hb:b[i]?=some y) (h:a.take i=b.take i) (he:x=y):a.take (i+1)=b.take (i+1):=by
 rw[AB ha,AB hb,h,he]
theorem QF {α:Type} {a b:List α} {i:Nat} (hl:a.length=b.length) (hi:a.length<=i) (h:a.take i=b.take i):a=b:=by
 rwa[QQ hi,QQ Aa]at h
theorem Acl {α:Type} {p:α->Bool} {l:List α} {i:Nat} {x:α} (h:l[i]?=some x) (hp:p x=true):l.any p=true:=
 A6s.2 ⟨x,Apj h,hp⟩
theorem FH {α:Type} {p:α->Bool} {l:List α} {i:Nat} {x:α} (h:l[i]?=some x) (ha:(l.take i).any p=false) (hp:p x=false):(l.take (i+1)).any p=false:=by
 rw[AB h,List.any_append,ha];simp[hp]
theorem G0 {α:Type} {p:α->Bool} {l:List α} {i:Nat} (h:l.length<=i) (ha:(l.take i).any p=false):l.any p=false:=by
 rwa[QQ h]at ha
abbrev Bs:=List UInt8
structure Rec where
 key:Bs
 value:Bs
 deriving DecidableEq
structure Batch where
 lO:Int
 lT:Int
 seq:Int
 vV:Bool
 rZ:List Rec
 deriving DecidableEq
structure Seen where
 seq:Int
 count:Int
 s6:Int
 deriving DecidableEq
structure Prod where
 lO:Int
 lT:Int
 next:Int
 s9:List Seen
 deriving DecidableEq
structure Row where
 offset:Int
 lO:Int
 seq:Int
 key:Bs
 value:Bs
 deriving DecidableEq
structure Entry where
 kind:Int
 b:Batch
 oC:Bool
 next:Int
 offset:Int
 row:Row
 vM:Prod
 deriving DecidableEq
structure Opn where
 lO:Int
 lT:Int
 gG:List Batch
 deriving DecidableEq
structure Part where
 vR:Int
 fin:Int
 rows:List Row
 kI:List Opn
 rA:List Prod
 deriving DecidableEq
structure Wr where
 op:Int
 file:Bs
 b:Bs
 n:Int
 deriving DecidableEq
def sl {α:Type} (sz:Nat) (f:α->List T) (l:List α):T:=.slice .any sz (l.map f)
def i64 (n:Int):T:=.int .i64 n
def Ba (c:UInt8):List T:=[.int .u8 (c.toNat:Int)]
def Lz (s:Bs):List T:=[.str s]
def AX (r:Rec):List T:=[.str r.key,.str r.value]
def Ak (b:Batch):List T:=[.int .i64 b.lO,.int .i64 b.lT,.int .i64 b.seq,.bool b.vV,.slice .any 2 (b.rZ.map AX)]
def AR (s:Seen):List T:=[.int .i64 s.seq,.int .i64 s.count,.int .i64 s.s6]
def Ar (p:Prod):List T:=[.int .i64 p.lO,.int .i64 p.lT,.int .i64 p.next,.slice .any 3 (p.s9.map AR)]
def Aw (r:Row):List T:=[.int .i64 r.offset,.int .i64 r.lO,.int .i64 r.seq,.str r.key,.str r.value]
def AP (x:Entry):List T:=[.int .i8 x.kind,.int .i64 x.b.lO,.int .i64 x.b.lT,.int .i64 x.b.seq,.bool x.b.vV,.slice .any 2 (x.b.rZ.map AX),.bool x.oC,.int .i64 x.next,.int .i64 x.offset,
 .int .i64 x.row.offset,.int .i64 x.row.lO,.int .i64 x.row.seq,.str x.row.key,.str x.row.value,.int .i64 x.vM.lO,.int .i64 x.vM.lT,.int .i64 x.vM.next,.slice .any 3 (x.vM.s9.map AR)]
def An (o:Opn):List T:=[.int .i64 o.lO,.int .i64 o.lT,.slice .any 5 (o.gG.map Ak)]
def Ax (p:Part):List T:=[.int .i64 p.vR,.int .i64 p.fin,.slice .any 5 (p.rows.map Aw),.slice .any 3 (p.kI.map An),.slice .any 4 (p.rA.map Ar)]
def BE (x:Wr):List T:=[.int .i8 x.op,.str x.file,.str x.b,.int .i64 x.n]
