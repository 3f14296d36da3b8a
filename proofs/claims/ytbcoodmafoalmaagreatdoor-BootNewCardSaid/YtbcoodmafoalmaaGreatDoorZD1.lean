/- The data of the program, and their trees. -/
import Derived.Test.YtbcoodmafoalmaaGreatDoorZM3
set_option linter.unusedVariables false
set_option linter.unusedSimpArgs false
namespace Go.Am
theorem wrap64 {n : Int} (h1 : -9223372036854775808 ≤ n) (h2 : n < 9223372036854775808) : IntKind.i64.wrap n = n := by
  simp [IntKind.wrap, IntKind.bits, IntKind.signed]; omega
abbrev Bs := List UInt8
structure Rec where
  key : Bs
  value : Bs
  deriving DecidableEq
structure Batch where
  pid : Int
  epoch : Int
  seq : Int
  txn : Bool
  recs : List Rec
  deriving DecidableEq
structure Seen where
  seq : Int
  count : Int
  base : Int
  deriving DecidableEq
structure Prod where
  pid : Int
  epoch : Int
  next : Int
  seen : List Seen
  deriving DecidableEq
structure Row where
  offset : Int
  pid : Int
  seq : Int
  key : Bs
  value : Bs
  deriving DecidableEq
structure Entry where
  kind : Int
  b : Batch
  yes : Bool
  next : Int
  offset : Int
  row : Row
  prod : Prod
  deriving DecidableEq
structure Opn where
  pid : Int
  epoch : Int
  batches : List Batch
  deriving DecidableEq
structure Part where
  start : Int
  fin : Int
  rows : List Row
  opens : List Opn
  prods : List Prod
  deriving DecidableEq
structure Wr where
  op : Int
  file : Bs
  b : Bs
  n : Int
  deriving DecidableEq
def sl {α : Type} (sz : Nat) (f : α → List T) (l : List α) : T := .slice .any sz (l.map f)
def i64 (n : Int) : T := .int .i64 n
end Go.Am
