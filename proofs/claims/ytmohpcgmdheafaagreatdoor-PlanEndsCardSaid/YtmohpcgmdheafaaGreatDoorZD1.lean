/- The data of the program, and their trees. -/
import Derived.Test.YtmohpcgmdheafaaGreatDoorZN2
set_option linter.unusedVariables false
set_option linter.unusedSimpArgs false
namespace Go.Am
theorem An {n:Int} (h1: -9223372036854775808<=n) (h2:n<9223372036854775808):IntKind.i64.wrap n=n:=by
 simp[IntKind.wrap,IntKind.bits,IntKind.signed];omega
theorem A5 {α:Type} {l:List α} {i:Nat} {x:α} (h:l[i]?=some x):l.take (i+1)=l.take i++[x]:=by
 rw[List.take_add_one,h];rfl
theorem bT {p:Prop} [Decidable p] (h:p):true=decide p:=by simp[h]
theorem bF {p:Prop} [Decidable p] (h: ¬p):false=decide p:=by simp[h]
theorem bI {p q:Prop} [Decidable p] [Decidable q] (h:p↔q):decide p=decide q:=by simp[h]
theorem DV {α:Type} {a b:List α} {i:Nat} {x y:α} (ha:a[i]?=some x) (hb:b[i]?=some y) (h:a.take i=b.take i) (he:x=y):a.take (i+1)=b.take (i+1):=by
 rw[A5 ha,A5 hb,h,he]
theorem Fg {α:Type} {a b:List α} {i:Nat} (hl:a.length=b.length) (hi:a.length<=i) (h:a.take i=b.take i):a=b:=by
 rwa[List.take_of_length_le hi,List.take_of_length_le Aa]at h
theorem ZN {α:Type} {p:α->Bool} {l:List α} {i:Nat} {x:α} (h:l[i]?=some x) (hp:p x=true):l.any p=true:=
 List.any_eq_true.2 ⟨x,List.mem_of_getElem? h,hp⟩
theorem Du {α:Type} {p:α->Bool} {l:List α} {i:Nat} {x:α} (h:l[i]?=some x) (ha:(l.take i).any p=false) (hp:p x=false):(l.take (i+1)).any p=false:=by
 rw[A5 h,List.any_append,ha];simp[hp]
theorem F0 {α:Type} {p:α->Bool} {l:List α} {i:Nat} (h:l.length<=i) (ha:(l.take i).any p=false):l.any p=false:=by
 rwa[List.take_of_length_le h]at ha
abbrev Bs:=List UInt8
structure Rec where
 key:Bs
 value:Bs
 deriving DecidableEq
structure Batch where
 pid:Int
 epoch:Int
 seq:Int
 txn:Bool
 recs:List Rec
 deriving DecidableEq
structure Seen where
 seq:Int
 count:Int
 base:Int
 deriving DecidableEq
structure Prod where
 pid:Int
 epoch:Int
 next:Int
 seen:List Seen
 deriving DecidableEq
structure Row where
 offset:Int
 pid:Int
 seq:Int
 key:Bs
 value:Bs
 deriving DecidableEq
structure Entry where
 kind:Int
 b:Batch
 yes:Bool
 next:Int
 offset:Int
 row:Row
 prod:Prod
 deriving DecidableEq
structure Opn where
 pid:Int
 epoch:Int
 batches:List Batch
 deriving DecidableEq
structure Part where
 start:Int
 fin:Int
 rows:List Row
 opens:List Opn
 prods:List Prod
 deriving DecidableEq
structure Wr where
 op:Int
 file:Bs
 b:Bs
 n:Int
 deriving DecidableEq
def sl {α:Type} (sz:Nat) (f:α->List T) (l:List α):T:=.slice .any sz (l.map f)
def i64 (n:Int):T:=.int .i64 n
def Vu (n:Int):List T:=[.int .i64 n]
def A7 (c:UInt8):List T:=[.int .u8 (c.toNat:Int)]
def Ic (s:Bs):List T:=[.str s]
def AJ (r:Rec):List T:=[.str r.key,.str r.value]
def Au (b:Batch):List T:=[.int .i64 b.pid,.int .i64 b.epoch,.int .i64 b.seq,.bool b.txn,.slice .any 2 (b.recs.map AJ)]
def AM (s:Seen):List T:=[.int .i64 s.seq,.int .i64 s.count,.int .i64 s.base]
def Al (p:Prod):List T:=[.int .i64 p.pid,.int .i64 p.epoch,.int .i64 p.next,.slice .any 3 (p.seen.map AM)]
def A8 (r:Row):List T:=[.int .i64 r.offset,.int .i64 r.pid,.int .i64 r.seq,.str r.key,.str r.value]
def Az (x:Entry):List T:=[.int .i8 x.kind,.int .i64 x.b.pid,.int .i64 x.b.epoch,.int .i64 x.b.seq,.bool x.b.txn,.slice .any 2 (x.b.recs.map AJ),.bool x.yes,.int .i64 x.next,.int .i64 x.offset,
 .int .i64 x.row.offset,.int .i64 x.row.pid,.int .i64 x.row.seq,.str x.row.key,.str x.row.value,.int .i64 x.prod.pid,.int .i64 x.prod.epoch,.int .i64 x.prod.next,.slice .any 3 (x.prod.seen.map AM)]
def As (o:Opn):List T:=[.int .i64 o.pid,.int .i64 o.epoch,.slice .any 5 (o.batches.map Au)]
def AD (p:Part):List T:=[.int .i64 p.start,.int .i64 p.fin,.slice .any 5 (p.rows.map A8),.slice .any 3 (p.opens.map As),.slice .any 4 (p.prods.map Al)]
def AF (x:Wr):List T:=[.int .i8 x.op,.str x.file,.str x.b,.int .i64 x.n]
end Go.Am
