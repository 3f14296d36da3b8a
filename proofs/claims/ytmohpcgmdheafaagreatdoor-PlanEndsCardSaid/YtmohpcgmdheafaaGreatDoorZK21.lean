/- Contracts and laws, joined: Xs, Od. No condition beside those that each theorem names. -/
import Derived.Test.YtmohpcgmdheafaaGreatDoorZK19
set_option linter.unusedVariables false
set_option linter.unusedSimpArgs false
set_option maxRecDepth 100000
set_option maxHeartbeats 8000000
namespace Go.Proofs.YtmohpcgmdheafaaGreatDoor
open Go.Am
attribute [local irreducible] Decidable.decide Tr A2 hSK hSW
def Arl (ft off:Nat):Prop:= ∀(pb po:Nat) (t:Addr) (n:Int) (old:Value) (w:World),w.cell? ⟨0,0,none⟩=some (.iface 255 (.agg #[.pointer (some ⟨4,69,none⟩)]))->w.cell? ⟨pb,po+off,none⟩=some (.iface 45 (.int .i64 n))->w.cell? t=some old->w.frozen? t=false->
 Calls Tryz.prog 42 #[.iface ft (.pointer (some ⟨pb,po,none⟩)),.iface 116 (.pointer (some t))] w fun ev w'=>ev=.returned (.bool true)/\ ∃o1 o2 o3 o4,w'=((((w.alloc o1).alloc o2).alloc o3).alloc o4).setCell t (.int .i64 n)
theorem Ati {ft off:Nat} (h:Arl ft off) (cs:List T) (n e0:Int) (hcs:cs[off]?=some (.iface 45 (.int .i64 n))):
  A17 42 [.t (.iface ft (.ptr cs)),.iface 116 (.ref 1 0)] [(1,.cells [.t (.int .i64 e0)])] (.t (.bool true)) [(1,.cells [.t (.int .i64 n)])]:=by
 refine⟨⟨_,Tryz.func42,Y⟩,fun vs w g hr hi=>?_⟩
 obtain⟨hlen,hrel⟩:=hr
 match vs,hlen with
 |[v1,v2],_=>
  have r1:=Aw (hrel 0 v1 _ Y Y)
  have r2:=hrel 1 v2 _ Y Y
  cases r1 with
  |iface _ p1 _ r1=>
   obtain⟨pb,po,rfl,hc⟩:=FO r1
   cases r2 with
   |iface _ p2 _ r2=>
    cases r2 with
    |ref _ _ blk hb=>
     obtain⟨blk',u,e,k1,k2,k3,k4,k5⟩:=hi.ok 1 _ Y
     rw[hb]at k1;cases k1
     have hu:u.size=1:=by rw[k4];rfl
     have hg:=(hi.im _ (List.mem_singleton.2 Y)).2
     obtain⟨_,_,x1,hx1,hx2⟩:=hc off _ hcs
     have hx3:x1=.iface 45 (.int .i64 n):=by
      cases hx2 with
      |iface _ p _ h=>cases h;rfl
     subst hx3
     have ht:w.cell? ⟨blk,0,none⟩=some u[0]:=by simp[World.cell?,k3]
     have hf:w.frozen? ⟨blk,0,none⟩=false:=by simp[World.frozen?,k3]
     refine(h pb po ⟨blk,0,none⟩ n _ w hg hx1 ht hf).mono ?_
     rintro ev w' ⟨rfl,o1,o2,o3,o4,rfl⟩
     obtain⟨a1,a2,a3⟩:=Ez hi (More.alloc w o1)
     obtain⟨b1,b2,b3⟩:=Ez a2 (More.alloc _ o2)
     obtain⟨c1,c2,c3⟩:=Ez b2 (More.alloc _ o3)
     obtain⟨d1,d2,d3⟩:=Ez c2 (More.alloc _ o4)
     have hh:((((w.alloc o1).alloc o2).alloc o3).alloc o4).heap[blk]?=some (.cells u e (0,0)):=by
      have hbl:=Cw k3
      rw[(More.alloc _ o4).old blk (by simp;omega),(More.alloc _ o3).old blk (by simp;omega),(More.alloc _ o2).old blk (by simp;omega),(More.alloc _ o1).old blk hbl];exact k3
     obtain⟨q1,q2,q3⟩:=MM d2 (B:=.cells [.t (.int .i64 n)]) hb hh Ac (G6 hh (.int .i64 n)) (fun _=>⟨_,Y⟩) (fun _=>⟨blk,_,e,hb,k2,(G6 hh (.int .i64 n)).new,by simp[hu],fun i v x hv hx=>by
      match i with
      |0=>simp[hu]at hv hx;subst hv;subst hx;exact .t _ _ (.int _ _)
      |i+1=>simp at hx⟩)
     exact⟨_,g,Y,(((a1.trans b1).trans c1).trans d1).trans q1,.t _ _ (.bool _),q2⟩
def Ark (ft off:Nat):Prop:= ∀(pb po:Nat) (n k:Int) (w:World),w.cell? ⟨pb,po+off,none⟩=some (.iface 45 (.int .i64 n))->
 Calls Tryz.prog 41 #[.iface ft (.pointer (some ⟨pb,po,none⟩)),.iface 45 (.int .i64 k)] w fun ev w'=>ev=.returned (.bool (decide (n=k)))/\w'=w
theorem Asu {ft off:Nat} (h:Ark ft off) (cs:List T) (n k:Int) (hcs:cs[off]?=some (.iface 45 (.int .i64 n))):
  A17 41 [.t (.iface ft (.ptr cs)),.t (.iface 45 (.int .i64 k))] [] (.t (.bool (decide (n=k)))) []:=by
 refine⟨⟨_,Tryz.func41,Y⟩,fun vs w g hr hi=>?_⟩
 obtain⟨hlen,hrel⟩:=hr
 match vs,hlen with
 |[v1,v2],_=>
  have r1:=Aw (hrel 0 v1 _ Y Y)
  have r2:=Aw (hrel 1 v2 _ Y Y)
  cases r1 with
  |iface _ p1 _ r1=>
   obtain⟨pb,po,rfl,hc⟩:=FO r1
   cases r2 with
   |iface _ p2 _ r2=>
    cases r2
    obtain⟨_,_,x1,hx1,hx2⟩:=hc off _ hcs
    have hx3:x1=.iface 45 (.int .i64 n):=by
     cases hx2 with
     |iface _ p _ h=>cases h;rfl
    subst hx3
    refine(h pb po n k w hx1).mono ?_
    rintro ev w' ⟨rfl,rfl⟩
    exact⟨_,g,Y,A1t _ _,.t _ _ (.bool _),hi⟩
theorem Atm:Arl 155 0:=fun pb po t n old w h1 h2 h3 h4=>(Atl pb po t n old w h1 h2 h3 h4).mono fun ev w' h=>⟨h.1,_,_,_,_,h.2⟩
theorem Asy:Ark 155 0:=Asx
theorem Tu (n:Int):A17 17 [.t (.iface 155 (.ptr [.iface 45 (.int .i64 n)]))] [] (.t (.int .i64 n)) []:=by
 have ci:=Asu Asy [.iface 45 (.int .i64 n)] n 2 Y
 by_cases h2:n=2
 ·subst h2
  rw[decide_eq_true Y]at ci
  refine ct0 Ag Tryz.func17 Y false Y Y ?_
  repeat'(first|exact prB|refine stC ?_|refine stU (fun h=>?_) fun h=>?_|refine stN (fun b hb=>?_)|refine stL ?_ (c:=ci)|fail)
  all_goals exact Ai Y (A1y Y)
 ·rw[decide_eq_false h2]at ci
  refine ct0 Ag Tryz.func17 Y false Y Y ?_
  repeat'(first|exact prB|refine stC ?_|refine stU (fun h=>?_) fun h=>?_|refine stN (fun b hb=>?_)|refine stL ?_ (c:=ci)|refine A0 Ag [(6,1)] [(1,6)] Y Y Y Y Y (Ati Atm [.iface 45 (.int .i64 n)] n 0 Y) Y Y Y Y Y ?_|fail)
  all_goals exact Ai Y (A1y Y)
def Ajw (L:Image) (tid:Int):Reply:={LS 0 0 with pid:=(Av L.m tid).pid,epoch:=(Av L.m tid).epoch}
theorem Adz {f:Nat} {k tid tmo g q o:Int} {r:AV} {σ σ':St} (h:A17 f [.ref 1 0,.agg (Ah (Aso k tid tmo g q o))] σ r σ'):A17 f [.ref 1 0,.agg (Ah (Ar0 k tid tmo g q o))] σ r σ':=h.args ⟨A1x _,Wu k tid tmo g q o,trivial⟩
theorem Ae0 (i K L:Image) (r:Req) (w:List Wr) (ht:0<=r.tid/\r.tid<3) (hk:(Av i.m r.tid).state≠2) (cw:A17 114 [.ref 1 0,.agg (Ah (Ax (e1 r.tid r.timeout)))] [(1,.cells (Ah (A1 i++BL r)))] (.tuple [.agg (Ah (Di ⟨w,L⟩)),.t .nilIface]) [(1,.cells (Ah (A1 K++BL r)))]):A17 55 [.ref 1 0] [(1,.cells (Ah (A1 i++BL r)))] (.tuple [.t (.slice .any 48 [Di ⟨w,L⟩]),.agg (Ah (Fv (Ajw L r.tid))),.t .nilIface]) [(1,.cells (Ah (A1 K++BL r)))]:=by
 obtain⟨kind,tid,tmo,pid,ep,part,grp,off,most,yes,b⟩:=r
 simp only at ht hk cw⊢
 rw[MU]at cw
 have cw:=Adz cw
 rcases BB ht with rfl|rfl|rfl
 all_goals
  simp only[Av,Int.reduceEq,if_true,if_false]at hk
  refine ct1 Ag Tryz.func55 Y Y ?_
  repeat'(first|exact prB|refine stC ?_|refine stU (fun h=>?_) fun h=>?_|refine stN (fun b hb=>?_)|refine stE 3 10 ?_|refine NK (id:=6) (m:=17) (ms:=[0,0,2,6,14,30,0,64,192,448,960,2046,4095,8191,16383,16383,32767,131071]) Ag [(16,10)] 12 Ab Y Y Y Y Ab Ab Ab Y Y Y Y ?_|refine BC (id:=10) (m:=8) (ms:=[0,1,0,4,0,16,60,3,255,511]) Ag [(8,6)] Ab Y Y Y Y Ab Ab ?_|refine A0 Ag [(1,1)] [(1,1)] Y Y Y Y Y cw Y Y Y Y Y ?_|fail)
  all_goals first
   |(exfalso;omega)
   |(refine Ba [3,5,9] Y Y Y (Ap ⟨Ar,AA ?_,A1x _,trivial⟩)
     (repeat'(first|exact A1x _|exact Ak|exact Ar|exact trivial|refine AA ?_|refine Ap ?_|refine And.intro ?_ ?_)))
theorem UQ (i:Image) (r:Req) (n:Int) (hn:n≠0) (he:Aks i r.b.pid r.b.epoch r.b.txn=n):A17 56 [.ref 1 0] [(1,.cells (Ah (A1 i++BL r)))] (.tuple [.t (.slice .any 48 []),.agg (Ah (Fv (LS 0 0))),.t (Alk n)]) [(1,.cells (Ah (A1 i++BL r)))]:=by
 have cw:=Arn i r.b.pid r.b.epoch r.b.txn
 rw[he]at cw
 have cr:=Zc i r n hn
 obtain⟨kind,tid,tmo,pid,ep,part,grp,off,most,yes,⟨bp,be,bs,bt,brs⟩⟩:=r
 simp only at cw cr⊢
 generalize Aro i bp be bt=wt at cw
 refine ct1 Ag Tryz.func56 Y Y ?_
 repeat'(first|exact prB|refine stC ?_|refine stU (fun h=>?_) fun h=>?_|refine stN (fun b hb=>?_)|refine stE 2 15 ?_|refine stE 7 24 ?_|refine stE 12 2 ?_|refine stE 13 6 ?_|refine stE 17 4 ?_|refine BC (id:=1) (m:=12) (ms:=[0,1,3,7,15,0,32,96,224,480,0,1055,4095]) Ag [(11,10)] Ab Y Y Y Y Ab Ab ?_|refine stM ?_ (c:=cw)|refine A0 Ag [(1,1)] [(1,1)] Y Y Y Y Y cr Y Y Y Y Y ?_|fail)
 all_goals first
  |(exfalso;omega)
  |exact Ba [3,5] Y Y Y (A1x _)
def A01 (l:Nat):Blk:=.mp [.int .i8 0,.int .i8 1,.int .i8 2,.int .i8 3,.int .i8 4,.int .i8 5,.int .i8 6,.int .i8 7,.int .i8 8,.int .i8 9] [.func (.func 54) [.ref l 0] [],.func (.func 55) [.ref l 0] [],.func (.func 56) [.ref l 0] [],.func (.func 57) [.ref l 0] [],.func (.func 58) [.ref l 0] [],.func (.func 59) [.ref l 0] [],.func (.func 60) [.ref l 0] [],.func (.func 61) [.ref l 0] [],.func (.func 62) [.ref l 0] [],.func (.func 63) [.ref l 0] []]
theorem Ry (cs:List AV):A17 27 [.ref 1 0] [(1,.cells cs)] (.mref 6) [(6,A01 1),(1,.cells cs)]:=by
 refine ct1 Ag Tryz.func27 Y Y ?_
 repeat'(first|exact prB|refine stC ?_|refine stU (fun h=>?_) fun h=>?_|refine stN (fun b hb=>?_)|fail)
 all_goals first
  |exact Ba [] Y Y Y (A1x _)
end Go.Proofs.YtmohpcgmdheafaaGreatDoor
