/- Lemmas toward the law; each names its conditions. -/
import Derived.Test.YtppffhlbcgpgdaaGreatDoorYE1
import Derived.Test.YtppffhlbcgpgdaaGreatDoorYD1
import Derived.Test.YtppffhlbcgpgdaaGreatDoorYSt
set_option linter.all false
set_option maxRecDepth 100000
set_option maxHeartbeats 8000000
namespace Go.Proofs.YtppffhlbcgpgdaaGreatDoor
open Go.Am
attribute [local irreducible] Decidable.decide Tr A6 CG EJ
theorem HP {w:World} {aA:Nat} {u:Array Value} {e:TypeId} (h:w.heap[aA]?=some (.cells u e (0,0))) (v:Value):Sets w (w.setCell ⟨aA,0,none⟩ v) aA (u.setIfInBounds 0 v) e where
 size:=by simp[World.setCell]
 old b hb:=by simp[World.setCell,A6u,A6f hb]
 new:=by simp[World.setCell,A6u,h]
 same:=⟨Y,Y⟩
def TR (ft off:Nat):Prop:= ∀(pb po:Nat) (t:Addr) (n:Int) (old:Value) (w:World),w.cell? ⟨0,0,none⟩=some (.iface 233 (.agg #[.pointer (some ⟨4,98,none⟩)]))->w.cell? ⟨pb,po+off,none⟩=some (.int .i64 n)->w.cell? t=some old->w.frozen? t=false->
 Calls Tryz.prog 59 #[.iface ft (.pointer (some ⟨pb,po,none⟩)),.iface 122 (.pointer (some t))] w λev w'=>ev=.returned (.bool true)/\ ∃o1 o2 o3 o4,w'=((((w.alloc o1).alloc o2).alloc o3).alloc o4).setCell t (.int .i64 n)
theorem Zp {ft off:Nat} (h:Fj ft off λn=>.int .i64 n):TR ft off:=λpb po t n old w h1 h2 h3 h4=>(h pb po t n old w h1 h2 h3 h4).mono λev w' h=>⟨h.1,_,_,_,_,h.2⟩
theorem Qy {ft off:Nat} (h:TR ft off) (cs:List T) (n e0:Int) (bZ:cs[off]?=some (.int .i64 n)):
  A3z 59 [.t (.iface ft (.ptr cs)),.iface 122 (.ref 1 0)] [(1,.cells [.t (.int .i64 e0)])] (.t (.bool true)) [(1,.cells [.t (.int .i64 n)])]:=by
 refine⟨⟨_,Tryz.func59,Y⟩,λvs w g hr hi=>?_⟩;obtain⟨aO,aJ⟩:=hr
 match vs,aO with
 |[v1,v2],_=>
  have r1:=Av (aJ 0 v1 _ Y Y);have r2:=aJ 1 v2 _ Y Y
  cases r1 with
  |iface _ p1 _ r1=>
   obtain⟨pb,po,rfl,hc⟩:=GR r1
   cases r2 with
   |iface _ p2 _ r2=>
    cases r2 with
    |ref _ _ aA hb=>
     obtain⟨aX,u,e,k1,k2,k3,k4,k5⟩:=hi.ok 1 _ Y;rw[hb]at k1;cases k1;have hu:u.size=1:=by rw[k4];rfl
     have hg:=(hi.im _ (A4h.2 Y)).2;obtain⟨_,_,x1,eC,jQ⟩:=hc off _ bZ;have iB:x1=.int .i64 n:=by cases jQ;rfl
     subst iB;have ht:w.cell? ⟨aA,0,none⟩=some u[0]:=by simp[World.cell?,k3]
     have hf:w.frozen? ⟨aA,0,none⟩=false:=by simp[World.frozen?,k3]
     refine(h pb po ⟨aA,0,none⟩ n _ w hg eC ht hf).mono ?_;rintro ev w' ⟨rfl,o1,o2,o3,o4,rfl⟩;obtain⟨a1,a2,a3⟩:=Fs hi (More.alloc w o1);obtain⟨b1,b2,b3⟩:=Fs a2 (More.alloc _ o2);obtain⟨c1,c2,c3⟩:=Fs b2 (More.alloc _ o3);obtain⟨d1,d2,d3⟩:=Fs c2 (More.alloc _ o4)
     have hh:((((w.alloc o1).alloc o2).alloc o3).alloc o4).heap[aA]?=some (.cells u e (0,0)):=by
      have oG:=C9 k3;rw[(More.alloc _ o4).old aA (by simp;omega),(More.alloc _ o3).old aA (by simp;omega),(More.alloc _ o2).old aA (by simp;omega),(More.alloc _ o1).old aA oG];exact k3
     obtain⟨q1,q2,q3⟩:=Kh d2 (B:=.cells [.t (.int .i64 n)]) hb hh Ac (HP hh (.int .i64 n)) (λ_=>⟨_,Y⟩) (λ_=>⟨aA,_,e,hb,k2,(HP hh (.int .i64 n)).new,by simp[hu],λi v x hv hx=>by
      match i with
      |0=>simp[hu]at hv hx;subst hv;subst hx;exact .t _ _ (.int _ _)
      |i+1=>simp at hx⟩)
     exact⟨_,g,Y,(((a1.trans b1).trans c1).trans d1).trans q1,.t _ _ (.bool _),q2⟩
theorem Avt:TR 406 1:=Zp Ase
theorem Vb:A3z 243 [.t .nilIface] [] (.t (.int .i64 0)) []:=by
 refine yF Tryz.func243 ?_
 repeat'(first|exact Au|refine yC ?_ ?_|refine⟨λh=>?_⟩|fail)
 exact Ah Y (A3m Y)
theorem YS (i n:Int):A3z 243 [.t (.iface 406 (.ptr [.int .i64 i,.int .i64 n]))] [] (.t (.int .i64 n)) []:=by
 refine yF Tryz.func243 ?_
 repeat'(first|exact Au|refine yC ?_ ?_|refine⟨λh=>?_⟩|refine BT [(6,1)] [(1,6)] (Qy Avt [.int .i64 i,.int .i64 n] n 0 Y) ?_|fail)
 exact Ah Y (A3m Y)
end Go.Proofs.YtppffhlbcgpgdaaGreatDoor
namespace Go.Proofs.YtppffhlbcgpgdaaGreatDoor
open Go.Am
attribute [local irreducible] Decidable.decide
theorem Alo (k:Int):A3z 58 [.t .nilIface,.t (.iface 52 (.int .i64 k))] [] (.t (.bool false)) []:=by
 refine⟨⟨_,Tryz.func58,Y⟩,λvs w g hr hi=>?_⟩;obtain⟨aO,aJ⟩:=hr
 match vs,aO with
 |[v1,v2],_=>
  have r1:=Av (aJ 0 v1 _ Y Y);have r2:=Av (aJ 1 v2 _ Y Y);cases r1
  cases r2 with
  |iface _ p2 _ r2=>
   cases r2;refine(Auy k w).mono ?_;rintro ev w' ⟨rfl,rfl⟩;exact⟨_,g,Y,A3h _ _,.t _ _ (.bool _),hi⟩
def Aib (ft off:Nat):Prop:= ∀(pb po:Nat) (n k:Int) (w:World),w.cell? ⟨pb,po+off,none⟩=some (.int .i64 n)->
 Calls Tryz.prog 58 #[.iface ft (.pointer (some ⟨pb,po,none⟩)),.iface 52 (.int .i64 k)] w λev w'=>ev=.returned (.bool (decide (n=k)))/\w'=w
theorem Yr {ft off:Nat} (h:Aib ft off) (cs:List T) (n k:Int) (bZ:cs[off]?=some (.int .i64 n)):
  A3z 58 [.t (.iface ft (.ptr cs)),.t (.iface 52 (.int .i64 k))] [] (.t (.bool (decide (n=k)))) []:=by
 refine⟨⟨_,Tryz.func58,Y⟩,λvs w g hr hi=>?_⟩;obtain⟨aO,aJ⟩:=hr
 match vs,aO with
 |[v1,v2],_=>
  have r1:=Av (aJ 0 v1 _ Y Y);have r2:=Av (aJ 1 v2 _ Y Y)
  cases r1 with
  |iface _ p1 _ r1=>
   obtain⟨pb,po,rfl,hc⟩:=GR r1
   cases r2 with
   |iface _ p2 _ r2=>
    cases r2;obtain⟨_,_,x1,eC,jQ⟩:=hc off _ bZ;have iB:x1=.int .i64 n:=by cases jQ;rfl
    subst iB;refine(h pb po n k w eC).mono ?_;rintro ev w' ⟨rfl,rfl⟩;exact⟨_,g,Y,A3h _ _,.t _ _ (.bool _),hi⟩
theorem Yt:Aib 214 1:=Alq
