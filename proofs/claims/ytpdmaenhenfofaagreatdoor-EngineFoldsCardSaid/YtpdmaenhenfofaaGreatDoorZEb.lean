/- errors.As at *api.Errno as contracts of the abstract machine. -/
import Derived.Test.YtpdmaenhenfofaaGreatDoorZEa
import Derived.Test.YtpdmaenhenfofaaGreatDoorZCf
import Derived.Test.YtpdmaenhenfofaaGreatDoorZDt
import Derived.Test.YtpdmaenhenfofaaGreatDoorZM5
set_option linter.unusedVariables false
set_option linter.unusedSimpArgs false
namespace Go.Proofs.YtpdmaenhenfofaaGreatDoor
open Go.Am
attribute [local irreducible] Decidable.decide
set_option maxRecDepth 100000
set_option maxHeartbeats 1000000
theorem KZ {w:World} {blk:Nat} {u:Array Value} {e:TypeId} (h:w.heap[blk]?=some (.cells u e (0,0))) (v:Value):Sets w (w.setCell ⟨blk,0,none⟩ v) blk (u.setIfInBounds 0 v) e where
 size:=by simp[World.setCell]
 old b hb:=by simp[World.setCell,Array.getElem?_modify,Ne.symm hb]
 new:=by simp[World.setCell,Array.getElem?_modify,h]
 same:=⟨J,J⟩
def Zc (ft off:Nat):Prop:= ∀(pb po:Nat) (t:Addr) (n:Int) (old:Value) (w:World),w.cell? ⟨0,0,none⟩=some (.iface 268 (.agg #[.pointer (some ⟨4,93,none⟩)]))→w.cell? ⟨pb,po+off,none⟩=some (.int .i64 n)→w.cell? t=some old→w.frozen? t=false→
 Calls Tryz.prog 75 #[.iface ft (.pointer (some ⟨pb,po,none⟩)),.iface 165 (.pointer (some t))] w fun ev w'=>ev=.returned (.bool true)∧ ∃o1 o2 o3 o4,w'=((((w.alloc o1).alloc o2).alloc o3).alloc o4).setCell t (.int .i64 n)
theorem Vv {ft off:Nat} (h:Zc ft off) (cs:List T) (n e0:Int) (hcs:cs[off]?=some (.int .i64 n)):
  Ct Tryz.prog 75 [.t (.iface ft (.ptr cs)),.iface 165 (.ref 1 0)] [(1,.cells [.t (.int .i64 e0)])] (.t (.bool true)) [(1,.cells [.t (.int .i64 n)])]:=by
 refine⟨⟨_,Tryz.func75,J⟩,fun vs w g hr hi=>?_⟩
 obtain⟨hlen,hrel⟩:=hr
 match vs,hlen with
 |[v1,v2],_=>
  have r1:=A8 (hrel 0 v1 _ J J)
  have r2:=hrel 1 v2 _ J J
  cases r1 with
  |iface _ p1 _ r1=>
   obtain⟨pb,po,rfl,hc⟩:=Ih r1
   cases r2 with
   |iface _ p2 _ r2=>
    cases r2 with
    |ref _ _ blk hb=>
     obtain⟨blk',u,e,k1,k2,k3,k4,k5⟩:=hi.ok 1 _ J
     rw[hb]at k1;cases k1
     have hu:u.size=1:=by rw[k4];rfl
     have hg:=(hi.im _ (List.mem_singleton.2 J)).2
     obtain⟨_,_,x1,hx1,hx2⟩:=hc off _ hcs
     have hx3:x1=.int .i64 n:=by cases hx2;rfl
     subst hx3
     have ht:w.cell? ⟨blk,0,none⟩=some u[0]:=by simp[World.cell?,k3]
     have hf:w.frozen? ⟨blk,0,none⟩=false:=by simp[World.frozen?,k3]
     refine(h pb po ⟨blk,0,none⟩ n _ w hg hx1 ht hf).mono ?_
     rintro ev w' ⟨rfl,o1,o2,o3,o4,rfl⟩
     obtain⟨a1,a2,a3⟩:=Gh hi (More.alloc w o1)
     obtain⟨b1,b2,b3⟩:=Gh a2 (More.alloc _ o2)
     obtain⟨c1,c2,c3⟩:=Gh b2 (More.alloc _ o3)
     obtain⟨d1,d2,d3⟩:=Gh c2 (More.alloc _ o4)
     have hh:((((w.alloc o1).alloc o2).alloc o3).alloc o4).heap[blk]?=some (.cells u e (0,0)):=by
      have hbl:=CW k3
      rw[(More.alloc _ o4).old blk (by simp;omega),(More.alloc _ o3).old blk (by simp;omega),(More.alloc _ o2).old blk (by simp;omega),(More.alloc _ o1).old blk hbl];exact k3
     obtain⟨q1,q2,q3⟩:=Lx d2 (B:=.cells [.t (.int .i64 n)]) hb hh Z (KZ hh (.int .i64 n)) (fun _=>⟨_,J⟩) (fun _=>⟨blk,_,e,hb,k2,(KZ hh (.int .i64 n)).new,by simp[hu],fun i v x hv hx=>by
      match i with
      |0=>simp[hu]at hv hx;subst hv;subst hx;exact .t _ _ (.int _ _)
      |i+1=>simp at hx⟩)
     exact⟨_,g,J,(((a1.trans b1).trans c1).trans d1).trans q1,.t _ _ (.bool _),q2⟩
theorem Aiw:Zc 205 1:=fun pb po t n old w h1 h2 h3 h4=>(Ae8 pb po t n old w h1 h2 h3 h4).mono fun ev w' h=>⟨h.1,_,_,_,_,h.2⟩
theorem YF:Ct Tryz.prog 60 [.t .nilIface] [] (.t (.int .i64 0)) []:=by
 refine ct0 Ac Tryz.func60 J false J J ?_
 repeat'(first|refine Ae Ac J J J ?_|refine Ag ?_|refine Ah ?_|refine Ai Ac J J ?_|(refine AZ J J J J J (ht:=fun h=>?_) (hf:=fun h=>?_)<;>try exact prn)|(refine Af J (ht:=fun h=>?_) (hf:=fun h=>?_)<;>try exact prn)|refine Ao ?_|refine Ar ?_)
 exact Au J (Sub.of_eq J)
theorem Abt (i n:Int):Ct Tryz.prog 60 [.t (.iface 205 (.ptr [.int .i64 i,.int .i64 n]))] [] (.t (.int .i64 n)) []:=by
 refine ct0 Ac Tryz.func60 J false J J ?_
 repeat'(first|refine Ae Ac J J J ?_|refine Ag ?_|refine Ah ?_|refine Ai Ac J J ?_|(refine AZ J J J J J (ht:=fun h=>?_) (hf:=fun h=>?_)<;>try exact prn)|(refine Af J (ht:=fun h=>?_) (hf:=fun h=>?_)<;>try exact prn)|refine Ao ?_|refine Ar ?_|refine A7 Ac [(6,1)] [(1,6)] J J J J J (Vv Aiw [.int .i64 i,.int .i64 n] n 0 J) J J J J J ?_)
 exact Au J (Sub.of_eq J)
end Go.Proofs.YtpdmaenhenfofaaGreatDoor
