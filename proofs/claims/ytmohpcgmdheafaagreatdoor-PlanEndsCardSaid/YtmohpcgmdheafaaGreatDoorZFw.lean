/- More shapes of arguments: images. -/
import Derived.Test.YtmohpcgmdheafaaGreatDoorZW3
import Derived.Test.YtmohpcgmdheafaaGreatDoorZNd
set_option linter.unusedVariables false
set_option linter.unusedSimpArgs false
set_option maxRecDepth 100000
set_option maxHeartbeats 8000000
namespace Go.Proofs.YtmohpcgmdheafaaGreatDoor
open Go.Am Go.ChangeShapes Go.WideShapes Go.RowKit
def Y5:Sh:=.struct [.int .i64,.int .i64,.int .i64]
def UC:Sh:=.struct [.intB .i8,.int .i64,.int .i64,.int .i64,.int .i64,.slice (.int .i64),.slice Y5,.int .i64]
def QC:Sh:=.struct [.int .i64,.arr 3 UC,.arr 2 (.arr 3 (.int .i64))]
def UB:Sh:=.struct [.int .i8,.arr 3 Y6,QC]
theorem q_i {xs:List T} (h:(Sh.int .i64).Q xs): ∃n,xs=Bz n:=by
 simp only[Sh.Q]at h
 obtain⟨n,rfl⟩:=h
 exact⟨n,Y⟩
theorem Ar6 {xs:List T} (h:Y5.Q xs): ∃p,xs=AB p:=by
 simp only[Y5,Sh.Q,QL]at h
 obtain⟨_,_,⟨a,rfl⟩,⟨_,_,⟨b,rfl⟩,⟨_,_,⟨c,rfl⟩,rfl,rfl⟩,rfl⟩,rfl⟩:=h
 exact⟨⟨a,b,c⟩,Y⟩
theorem UN {xs:List T} (h:UC.Q xs): ∃c,xs=A4 c/\StC c:=by
 simp only[UC,Sh.Q,QL]at h
 obtain⟨_,_,⟨a,hw,rfl⟩,⟨_,_,⟨b,rfl⟩,⟨_,_,⟨c,rfl⟩,⟨_,_,⟨d,rfl⟩,⟨_,_,⟨e,rfl⟩,⟨_,_,⟨e1,h1,rfl⟩,⟨_,_,⟨e2,h2,rfl⟩,⟨_,_,⟨f,rfl⟩,rfl,rfl⟩,rfl⟩,rfl⟩,rfl⟩,rfl⟩,rfl⟩,rfl⟩,rfl⟩:=h
 obtain⟨l1,rfl⟩:=GJ (f:=Bz) fun y hy=>q_i (h1 y hy)
 obtain⟨l2,rfl⟩:=GJ (f:=AB) fun y hy=>Ar6 (h2 y hy)
 refine⟨⟨a,b,c,d,e,l1,l2,f⟩,Y,?_⟩
 have hmin:IntKind.i8.min= -128:=by decide
 have hmax:IntKind.i8.max=127:=by decide
 simp only[Lit.wf,Bool.and_eq_true,decide_eq_true_eq,hmin,hmax]at hw
 exact⟨by simpa using hw.1,by simpa using hw.2⟩
theorem Aga {α:Type} {l:List α} (h:l.length=3): ∃a b c,l=[a,b,c]:=by
 match l,h with
 |[a,b,c],_=>exact⟨a,b,c,Y⟩
theorem two {α:Type} {l:List α} (h:l.length=2): ∃a b,l=[a,b]:=by
 match l,h with
 |[a,b],_=>exact⟨a,b,Y⟩
theorem Aav {xs:List T} (h:(Sh.arr 3 (.int .i64)).Q xs): ∃a b c,xs=[.int .i64 a,.int .i64 b,.int .i64 c]:=by
 simp only[Sh.Q]at h
 obtain⟨ess,hl,hs,rfl⟩:=h
 obtain⟨x,y,z,rfl⟩:=Aga hl
 obtain⟨a,rfl⟩:=hs x Ac
 obtain⟨b,rfl⟩:=hs y Ac
 obtain⟨c,rfl⟩:=hs z Ac
 exact⟨a,b,c,Y⟩
theorem Ag3 {xs:List T} (h:QC.Q xs): ∃s,xs=A6 s/\StM s:=by
 unfold QC at h
 rw[Sh.Q]at h
 simp only[QL]at h
 obtain⟨_,_,h0,⟨_,_,h1,⟨_,_,h2,rfl,rfl⟩,rfl⟩,rfl⟩:=h
 simp only[Sh.Q]at h0
 obtain⟨made,rfl⟩:=h0
 rw[Sh.Q]at h1 h2
 obtain⟨ess,hl,hs,rfl⟩:=h1
 obtain⟨x,y,z,rfl⟩:=Aga hl
 obtain⟨t0,rfl,s0⟩:=UN (hs x Ac)
 obtain⟨t1,rfl,s1⟩:=UN (hs y Ac)
 obtain⟨t2,rfl,s2⟩:=UN (hs z Ac)
 obtain⟨es2,hl2,hs2,rfl⟩:=h2
 obtain⟨u,v,rfl⟩:=two hl2
 obtain⟨a,b,c,rfl⟩:=Aav (hs2 u Ac)
 obtain⟨d,e,f,rfl⟩:=Aav (hs2 v Ac)
 exact⟨⟨made,t0,t1,t2,a,b,c,d,e,f⟩,by simp[A6],⟨s0,s1,s2⟩⟩
theorem All {xs:List T} (h:UB.Q xs): ∃i,xs=A1 i/\StM i.m:=by
 unfold UB at h
 rw[Sh.Q]at h
 simp only[QL]at h
 obtain⟨_,_,h0,⟨_,_,h1,⟨_,_,h2,rfl,rfl⟩,rfl⟩,rfl⟩:=h
 simp only[Sh.Q]at h0
 obtain⟨tag,rfl⟩:=h0
 rw[Sh.Q]at h1
 obtain⟨ess,hl,hs,rfl⟩:=h1
 obtain⟨x,y,z,rfl⟩:=Aga hl
 obtain⟨p0,rfl⟩:=YO (hs x Ac)
 obtain⟨p1,rfl⟩:=YO (hs y Ac)
 obtain⟨p2,rfl⟩:=YO (hs z Ac)
 obtain⟨m,rfl,hm⟩:=Ag3 h2
 exact⟨⟨tag,p0,p1,p2,m⟩,by simp[A1],hm⟩
end Go.Proofs.YtmohpcgmdheafaaGreatDoor
