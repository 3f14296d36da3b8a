/- Contracts and laws, joined: Eb, Es. No condition beside those that each theorem names. -/
import Derived.Test.YtmohpcgmdheafaaGreatDoorZE1
import Derived.Test.YtmohpcgmdheafaaGreatDoorZD1
import Derived.Test.YtmohpcgmdheafaaGreatDoorZSt
set_option linter.unusedVariables false
set_option linter.unusedSimpArgs false
set_option maxRecDepth 100000
set_option maxHeartbeats 8000000
namespace Go.Proofs.YtmohpcgmdheafaaGreatDoor
open Go.Am
attribute [local irreducible] Decidable.decide Tr A2 hSK hSW
theorem G6 {w:World} {blk:Nat} {u:Array Value} {e:TypeId} (h:w.heap[blk]?=some (.cells u e (0,0))) (v:Value):Sets w (w.setCell ⟨blk,0,none⟩ v) blk (u.setIfInBounds 0 v) e where
 size:=by simp[World.setCell]
 old b hb:=by simp[World.setCell,Array.getElem?_modify,Ne.symm hb]
 new:=by simp[World.setCell,Array.getElem?_modify,h]
 same:=⟨Y,Y⟩
def Yk (ft off:Nat):Prop:= ∀(pb po:Nat) (t:Addr) (n:Int) (old:Value) (w:World),w.cell? ⟨0,0,none⟩=some (.iface 255 (.agg #[.pointer (some ⟨4,69,none⟩)]))->w.cell? ⟨pb,po+off,none⟩=some (.int .i64 n)->w.cell? t=some old->w.frozen? t=false->
 Calls Tryz.prog 42 #[.iface ft (.pointer (some ⟨pb,po,none⟩)),.iface 116 (.pointer (some t))] w fun ev w'=>ev=.returned (.bool true)/\ ∃o1 o2 o3 o4,w'=((((w.alloc o1).alloc o2).alloc o3).alloc o4).setCell t (.int .i64 n)
theorem Ae3 {ft off:Nat} (h:EaT ft off fun n=>.int .i64 n):Yk ft off:=fun pb po t n old w h1 h2 h3 h4=>(h pb po t n old w h1 h2 h3 h4).mono fun ev w' h=>⟨h.1,_,_,_,_,h.2⟩
theorem Uq {ft off:Nat} (h:Yk ft off) (cs:List T) (n e0:Int) (hcs:cs[off]?=some (.int .i64 n)):
  A17 42 [.t (.iface ft (.ptr cs)),.iface 116 (.ref 1 0)] [(1,.cells [.t (.int .i64 e0)])] (.t (.bool true)) [(1,.cells [.t (.int .i64 n)])]:=by
 refine⟨⟨_,Tryz.func42,Y⟩,fun vs w g hr hi=>?_⟩
 obtain⟨hlen,hrel⟩:=hr
 match vs,hlen with
 |[v1,v2],_=>
  have r1:=Aw (hrel 0 v1 _ Y Y)
  have r2:=hrel 1 v2 _ Y Y
  cases r1 with
  |iface _ p1 _ r1=>
   obtain⟨pb,po,rfl,hc⟩:=FO r1
   cases r2 with
   |iface _ p2 _ r2=>
    cases r2 with
    |ref _ _ blk hb=>
     obtain⟨blk',u,e,k1,k2,k3,k4,k5⟩:=hi.ok 1 _ Y
     rw[hb]at k1;cases k1
     have hu:u.size=1:=by rw[k4];rfl
     have hg:=(hi.im _ (List.mem_singleton.2 Y)).2
     obtain⟨_,_,x1,hx1,hx2⟩:=hc off _ hcs
     have hx3:x1=.int .i64 n:=by cases hx2;rfl
     subst hx3
     have ht:w.cell? ⟨blk,0,none⟩=some u[0]:=by simp[World.cell?,k3]
     have hf:w.frozen? ⟨blk,0,none⟩=false:=by simp[World.frozen?,k3]
     refine(h pb po ⟨blk,0,none⟩ n _ w hg hx1 ht hf).mono ?_
     rintro ev w' ⟨rfl,o1,o2,o3,o4,rfl⟩
     obtain⟨a1,a2,a3⟩:=Ez hi (More.alloc w o1)
     obtain⟨b1,b2,b3⟩:=Ez a2 (More.alloc _ o2)
     obtain⟨c1,c2,c3⟩:=Ez b2 (More.alloc _ o3)
     obtain⟨d1,d2,d3⟩:=Ez c2 (More.alloc _ o4)
     have hh:((((w.alloc o1).alloc o2).alloc o3).alloc o4).heap[blk]?=some (.cells u e (0,0)):=by
      have hbl:=Cw k3
      rw[(More.alloc _ o4).old blk (by simp;omega),(More.alloc _ o3).old blk (by simp;omega),(More.alloc _ o2).old blk (by simp;omega),(More.alloc _ o1).old blk hbl];exact k3
     obtain⟨q1,q2,q3⟩:=MM d2 (B:=.cells [.t (.int .i64 n)]) hb hh Ac (G6 hh (.int .i64 n)) (fun _=>⟨_,Y⟩) (fun _=>⟨blk,_,e,hb,k2,(G6 hh (.int .i64 n)).new,by simp[hu],fun i v x hv hx=>by
      match i with
      |0=>simp[hu]at hv hx;subst hv;subst hx;exact .t _ _ (.int _ _)
      |i+1=>simp at hx⟩)
     exact⟨_,g,Y,(((a1.trans b1).trans c1).trans d1).trans q1,.t _ _ (.bool _),q2⟩
theorem Atn:Yk 426 1:=Ae3 Ani
theorem TW:A17 320 [.t .nilIface] [] (.t (.int .i64 0)) []:=by
 refine ct0 Ag Tryz.func320 Y false Y Y ?_
 repeat'(first|exact prB|refine stC ?_|refine stU (fun h=>?_) fun h=>?_|fail)
 exact Ai Y (A1y Y)
theorem X6 (i n:Int):A17 320 [.t (.iface 426 (.ptr [.int .i64 i,.int .i64 n]))] [] (.t (.int .i64 n)) []:=by
 refine ct0 Ag Tryz.func320 Y false Y Y ?_
 repeat'(first|exact prB|refine stC ?_|refine stU (fun h=>?_) fun h=>?_|refine A0 Ag [(6,1)] [(1,6)] Y Y Y Y Y (Uq Atn [.int .i64 i,.int .i64 n] n 0 Y) Y Y Y Y Y ?_|fail)
 exact Ai Y (A1y Y)
end Go.Proofs.YtmohpcgmdheafaaGreatDoor
namespace Go.Proofs.YtmohpcgmdheafaaGreatDoor
open Go.Am
attribute [local irreducible] Decidable.decide
theorem Ah7 (k:Int):A17 41 [.t .nilIface,.t (.iface 45 (.int .i64 k))] [] (.t (.bool false)) []:=by
 refine⟨⟨_,Tryz.func41,Y⟩,fun vs w g hr hi=>?_⟩
 obtain⟨hlen,hrel⟩:=hr
 match vs,hlen with
 |[v1,v2],_=>
  have r1:=Aw (hrel 0 v1 _ Y Y)
  have r2:=Aw (hrel 1 v2 _ Y Y)
  cases r1
  cases r2 with
  |iface _ p2 _ r2=>
   cases r2
   refine(Ast k w).mono ?_
   rintro ev w' ⟨rfl,rfl⟩
   exact⟨_,g,Y,A1t _ _,.t _ _ (.bool _),hi⟩
def Akn (ft off:Nat):Prop:= ∀(pb po:Nat) (n k:Int) (w:World),w.cell? ⟨pb,po+off,none⟩=some (.int .i64 n)->
 Calls Tryz.prog 41 #[.iface ft (.pointer (some ⟨pb,po,none⟩)),.iface 45 (.int .i64 k)] w fun ev w'=>ev=.returned (.bool (decide (n=k)))/\w'=w
theorem Abi {ft off:Nat} (h:Akn ft off) (cs:List T) (n k:Int) (hcs:cs[off]?=some (.int .i64 n)):
  A17 41 [.t (.iface ft (.ptr cs)),.t (.iface 45 (.int .i64 k))] [] (.t (.bool (decide (n=k)))) []:=by
 refine⟨⟨_,Tryz.func41,Y⟩,fun vs w g hr hi=>?_⟩
 obtain⟨hlen,hrel⟩:=hr
 match vs,hlen with
 |[v1,v2],_=>
  have r1:=Aw (hrel 0 v1 _ Y Y)
  have r2:=Aw (hrel 1 v2 _ Y Y)
  cases r1 with
  |iface _ p1 _ r1=>
   obtain⟨pb,po,rfl,hc⟩:=FO r1
   cases r2 with
   |iface _ p2 _ r2=>
    cases r2
    obtain⟨_,_,x1,hx1,hx2⟩:=hc off _ hcs
    have hx3:x1=.int .i64 n:=by cases hx2;rfl
    subst hx3
    refine(h pb po n k w hx1).mono ?_
    rintro ev w' ⟨rfl,rfl⟩
    exact⟨_,g,Y,A1t _ _,.t _ _ (.bool _),hi⟩
theorem WN:Akn 231 1:=Ah9
end Go.Proofs.YtmohpcgmdheafaaGreatDoor
