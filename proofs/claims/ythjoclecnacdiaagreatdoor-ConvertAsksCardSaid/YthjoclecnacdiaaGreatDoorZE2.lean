/- Contracts and laws, joined: Eb, Es. No condition beside those that each theorem names. -/
import Derived.Test.YthjoclecnacdiaaGreatDoorZE1
import Derived.Test.YthjoclecnacdiaaGreatDoorZT1
import Derived.Test.YthjoclecnacdiaaGreatDoorZD1
import Derived.Test.YthjoclecnacdiaaGreatDoorZM5
set_option linter.unusedVariables false
set_option linter.unusedSimpArgs false
namespace Go.Proofs.YthjoclecnacdiaaGreatDoor
open Go.Am
attribute [local irreducible] Decidable.decide
set_option maxRecDepth 100000
set_option maxHeartbeats 1000000
theorem IM {w:World} {blk:Nat} {u:Array Value} {e:TypeId} (h:w.heap[blk]?=some (.cells u e (0,0))) (v:Value):Sets w (w.setCell ⟨blk,0,none⟩ v) blk (u.setIfInBounds 0 v) e where
 size:=by simp[World.setCell]
 old b hb:=by simp[World.setCell,Array.getElem?_modify,Ne.symm hb]
 new:=by simp[World.setCell,Array.getElem?_modify,h]
 same:=⟨J,J⟩
def Y6 (ft off:Nat):Prop:= ∀(pb po:Nat) (t:Addr) (n:Int) (old:Value) (w:World),w.cell? ⟨0,0,none⟩=some (.iface 183 (.agg #[.pointer (some ⟨4,73,none⟩)]))→w.cell? ⟨pb,po+off,none⟩=some (.int .i64 n)→w.cell? t=some old→w.frozen? t=false→
 Calls Tryz.prog 54 #[.iface ft (.pointer (some ⟨pb,po,none⟩)),.iface 108 (.pointer (some t))] w fun ev w'=>ev=.returned (.bool true)∧ ∃o1 o2 o3 o4,w'=((((w.alloc o1).alloc o2).alloc o3).alloc o4).setCell t (.int .i64 n)
theorem XE {ft off:Nat} (h:Y6 ft off) (cs:List T) (n e0:Int) (hcs:cs[off]?=some (.int .i64 n)):
  Ct Tryz.prog 54 [.t (.iface ft (.ptr cs)),.iface 108 (.ref 1 0)] [(1,.cells [.t (.int .i64 e0)])] (.t (.bool true)) [(1,.cells [.t (.int .i64 n)])]:=by
 refine⟨⟨_,Tryz.func54,J⟩,fun vs w g hr hi=>?_⟩
 obtain⟨hlen,hrel⟩:=hr
 match vs,hlen with
 |[v1,v2],_=>
  have r1:=AE (hrel 0 v1 _ J J)
  have r2:=hrel 1 v2 _ J J
  cases r1 with
  |iface _ p1 _ r1=>
   obtain⟨pb,po,rfl,hc⟩:=IX r1
   cases r2 with
   |iface _ p2 _ r2=>
    cases r2 with
    |ref _ _ blk hb=>
     obtain⟨blk',u,e,k1,k2,k3,k4,k5⟩:=hi.ok 1 _ J
     rw[hb]at k1;cases k1
     have hu:u.size=1:=by rw[k4];rfl
     have hg:=(hi.im _ (List.mem_singleton.2 J)).2
     obtain⟨_,_,x1,hx1,hx2⟩:=hc off _ hcs
     have hx3:x1=.int .i64 n:=by cases hx2;rfl
     subst hx3
     have ht:w.cell? ⟨blk,0,none⟩=some u[0]:=by simp[World.cell?,k3]
     have hf:w.frozen? ⟨blk,0,none⟩=false:=by simp[World.frozen?,k3]
     refine(h pb po ⟨blk,0,none⟩ n _ w hg hx1 ht hf).mono ?_
     rintro ev w' ⟨rfl,o1,o2,o3,o4,rfl⟩
     obtain⟨a1,a2,a3⟩:=EL hi (More.alloc w o1)
     obtain⟨b1,b2,b3⟩:=EL a2 (More.alloc _ o2)
     obtain⟨c1,c2,c3⟩:=EL b2 (More.alloc _ o3)
     obtain⟨d1,d2,d3⟩:=EL c2 (More.alloc _ o4)
     have hh:((((w.alloc o1).alloc o2).alloc o3).alloc o4).heap[blk]?=some (.cells u e (0,0)):=by
      have hbl:=Cm k3
      rw[(More.alloc _ o4).old blk (by simp;omega),(More.alloc _ o3).old blk (by simp;omega),(More.alloc _ o2).old blk (by simp;omega),(More.alloc _ o1).old blk hbl];exact k3
     obtain⟨q1,q2,q3⟩:=NO d2 (B:=.cells [.t (.int .i64 n)]) hb hh Y (IM hh (.int .i64 n)) (fun _=>⟨_,J⟩) (fun _=>⟨blk,_,e,hb,k2,(IM hh (.int .i64 n)).new,by simp[hu],fun i v x hv hx=>by
      match i with
      |0=>simp[hu]at hv hx;subst hv;subst hx;exact .t _ _ (.int _ _)
      |i+1=>simp at hx⟩)
     exact⟨_,g,J,(((a1.trans b1).trans c1).trans d1).trans q1,.t _ _ (.bool _),q2⟩
end Go.Proofs.YthjoclecnacdiaaGreatDoor
namespace Go.Proofs.YthjoclecnacdiaaGreatDoor
open Go.Am
attribute [local irreducible] Decidable.decide
set_option maxRecDepth 100000
set_option maxHeartbeats 1000000
def Abq (ft off:Nat):Prop:= ∀(pb po:Nat) (n k:Int) (w:World),w.cell? ⟨pb,po+off,none⟩=some (.int .i64 n)→
 Calls Tryz.prog 53 #[.iface ft (.pointer (some ⟨pb,po,none⟩)),.iface 28 (.int .i64 k)] w fun ev w'=>ev=.returned (.bool (decide (n=k)))∧w'=w
theorem Abf {ft off:Nat} (h:Abq ft off) (cs:List T) (n k:Int) (hcs:cs[off]?=some (.int .i64 n)):
  Ct Tryz.prog 53 [.t (.iface ft (.ptr cs)),.t (.iface 28 (.int .i64 k))] [] (.t (.bool (decide (n=k)))) []:=by
 refine⟨⟨_,Tryz.func53,J⟩,fun vs w g hr hi=>?_⟩
 obtain⟨hlen,hrel⟩:=hr
 match vs,hlen with
 |[v1,v2],_=>
  have r1:=AE (hrel 0 v1 _ J J)
  have r2:=AE (hrel 1 v2 _ J J)
  cases r1 with
  |iface _ p1 _ r1=>
   obtain⟨pb,po,rfl,hc⟩:=IX r1
   cases r2 with
   |iface _ p2 _ r2=>
    cases r2
    obtain⟨_,_,x1,hx1,hx2⟩:=hc off _ hcs
    have hx3:x1=.int .i64 n:=by cases hx2;rfl
    subst hx3
    refine(h pb po n k w hx1).mono ?_
    rintro ev w' ⟨rfl,rfl⟩
    exact⟨_,g,J,Ext.refl _ _,.t _ _ (.bool _),hi⟩
end Go.Proofs.YthjoclecnacdiaaGreatDoor
