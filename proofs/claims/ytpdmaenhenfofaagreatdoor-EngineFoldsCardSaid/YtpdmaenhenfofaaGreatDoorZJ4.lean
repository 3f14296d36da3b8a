/- Contracts and laws, joined: Pg, Pg1, Pg2, Pg5, Pg6, Ph, Pi, Pj. No condition beside those that each theorem names. -/
import Derived.Test.YtpdmaenhenfofaaGreatDoorZJ3
set_option linter.unusedVariables false
set_option linter.unusedSimpArgs false
namespace Go.Proofs.YtpdmaenhenfofaaGreatDoor
open Go.Am
attribute [local irreducible] Decidable.decide
set_option maxRecDepth 100000
set_option maxHeartbeats 1000000
def JZ:Prop:= ∀p:Prod,p.seen.length≤1000000→Ct Tryz.prog 155 [.agg (Aj (Av p))] [] (.t (.bool (C2 p))) []
def El (k:Int):Entry:=⟨k,b0,false,0,0,Ia,DG⟩
theorem Aoj {x:Entry} (hk:x.kind=0):(A1 x.b&&decide ((⟨x.kind,b0,x.yes,x.next,x.offset,x.row,x.prod⟩:Entry)=El x.kind))=B9 x:=by
 unfold B9 Dm Fd
 simp only[hk,if_true,if_false,Int.reduceEq]
 rcases x with⟨k1,⟨p1,e1,s1,t1,r1⟩,y1,n1,o1,⟨ro1,rp1,rs1,rk1,rv1⟩,⟨pp1,pe1,pn1,ps1⟩⟩
 simp only at hk
 subst hk
 rw[Bool.eq_iff_iff]
 simp[El,IG]
 try grind
theorem Amf (hK:JZ) (x:Entry) (hk:x.kind=0) (ha:x.b.recs.length≤1000000) (hp:x.prod.seen.length≤1000000):Ct Tryz.prog 109 [.agg (Aj (A4 x))] [] (.t (.bool (B9 x))) []:=by
 rw[←Aoj hk]
 refine ct0 Ac Tryz.func109 J false J J ?_
 repeat'(first|refine An Ac J J J J J ?_|refine Ae Ac J J J ?_|refine Ag ?_|refine Ah ?_|refine Ai Ac J J ?_|(refine AZ J J J J J (ht:=fun h=>?_) (hf:=fun h=>?_)<;>try exact prn)|(refine Af J (ht:=fun h=>?_) (hf:=fun h=>?_)<;>try exact prn)|refine Al ?_|refine Ao ?_|refine AB ?_|refine Ar ?_|refine Ak Ac J J J J J J J (GV x.b O) J J ?_|refine Ck Ac J J J J (FI ⟨x.kind,b0,x.yes,x.next,x.offset,x.row,x.prod⟩ (El x.kind) (by first|omega|simp) (by first|omega|simp)) J J J ⟨(by repeat'(first|exact Sub.refl _|exact A6|exact Bp|exact trivial|refine B7 ?_|refine AK ?_|refine And.intro ?_ ?_)),(by repeat'(first|exact Sub.refl _|exact A6|exact Bp|exact trivial|refine B7 ?_|refine AK ?_|refine And.intro ?_ ?_)),trivial⟩ ?_)
 all_goals(refine Au J (BJ ?_);simp[*])
end Go.Proofs.YtpdmaenhenfofaaGreatDoor
namespace Go.Proofs.YtpdmaenhenfofaaGreatDoor
open Go.Am
attribute [local irreducible] Decidable.decide
set_option maxRecDepth 100000
set_option maxHeartbeats 1000000
theorem Aoi {x:Entry} (hk:x.kind=1):(decide (1≤x.b.pid∧x.b.pid≤8∧0≤x.b.epoch∧x.b.epoch≤100)&&decide ((⟨x.kind,⟨0,0,x.b.seq,x.b.txn,x.b.recs⟩,false,x.next,x.offset,x.row,x.prod⟩:Entry)=El x.kind))=B9 x:=by
 unfold B9 Dm Fd
 simp only[hk,if_true,if_false,Int.reduceEq]
 rcases x with⟨k1,⟨p1,e1,s1,t1,r1⟩,y1,n1,o1,⟨ro1,rp1,rs1,rk1,rv1⟩,⟨pp1,pe1,pn1,ps1⟩⟩
 simp only at hk
 subst hk
 rw[Bool.eq_iff_iff]
 simp[El,IG]
 try grind
theorem Ame (hK:JZ) (x:Entry) (hk:x.kind=1) (ha:x.b.recs.length≤1000000) (hp:x.prod.seen.length≤1000000):Ct Tryz.prog 109 [.agg (Aj (A4 x))] [] (.t (.bool (B9 x))) []:=by
 rw[←Aoi hk]
 refine ct0 Ac Tryz.func109 J false J J ?_
 repeat'(first|refine An Ac J J J J J ?_|refine Ae Ac J J J ?_|refine Ag ?_|refine Ah ?_|refine Ai Ac J J ?_|(refine AZ J J J J J (ht:=fun h=>?_) (hf:=fun h=>?_)<;>try exact prn)|(refine Af J (ht:=fun h=>?_) (hf:=fun h=>?_)<;>try exact prn)|refine Al ?_|refine Ao ?_|refine AB ?_|refine Ar ?_|refine Ak Ac J J J J J J J (Gk _ _) J J ?_|refine Ck Ac J J J J (FI ⟨x.kind,⟨0,0,x.b.seq,x.b.txn,x.b.recs⟩,false,x.next,x.offset,x.row,x.prod⟩ (El x.kind) (by first|omega|simp) (by first|omega|simp)) J J J ⟨(by repeat'(first|exact Sub.refl _|exact A6|exact Bp|exact trivial|refine B7 ?_|refine AK ?_|refine And.intro ?_ ?_)),(by repeat'(first|exact Sub.refl _|exact A6|exact Bp|exact trivial|refine B7 ?_|refine AK ?_|refine And.intro ?_ ?_)),trivial⟩ ?_)
 all_goals(refine Au J (BJ ?_);simp[*])
end Go.Proofs.YtpdmaenhenfofaaGreatDoor
namespace Go.Proofs.YtpdmaenhenfofaaGreatDoor
open Go.Am
attribute [local irreducible] Decidable.decide
set_option maxRecDepth 100000
set_option maxHeartbeats 1000000
theorem Aoh {x:Entry} (hk:x.kind=2):(decide (0≤x.offset∧x.offset≤1048576)&&decide ((⟨x.kind,x.b,x.yes,x.next,0,x.row,x.prod⟩:Entry)=El x.kind))=B9 x:=by
 unfold B9 Dm Fd
 simp only[hk,if_true,if_false,Int.reduceEq]
 rcases x with⟨k1,⟨p1,e1,s1,t1,r1⟩,y1,n1,o1,⟨ro1,rp1,rs1,rk1,rv1⟩,⟨pp1,pe1,pn1,ps1⟩⟩
 simp only at hk
 subst hk
 rw[Bool.eq_iff_iff]
 simp[El,IG]
 try grind
theorem Amd (hK:JZ) (x:Entry) (hk:x.kind=2) (ha:x.b.recs.length≤1000000) (hp:x.prod.seen.length≤1000000):Ct Tryz.prog 109 [.agg (Aj (A4 x))] [] (.t (.bool (B9 x))) []:=by
 rw[←Aoh hk]
 refine ct0 Ac Tryz.func109 J false J J ?_
 repeat'(first|refine An Ac J J J J J ?_|refine Ae Ac J J J ?_|refine Ag ?_|refine Ah ?_|refine Ai Ac J J ?_|(refine AZ J J J J J (ht:=fun h=>?_) (hf:=fun h=>?_)<;>try exact prn)|(refine Af J (ht:=fun h=>?_) (hf:=fun h=>?_)<;>try exact prn)|refine Al ?_|refine Ao ?_|refine AB ?_|refine Ar ?_|refine Ck Ac J J J J (FI ⟨x.kind,x.b,x.yes,x.next,0,x.row,x.prod⟩ (El x.kind) (by first|omega|simp) (by first|omega|simp)) J J J ⟨(by repeat'(first|exact Sub.refl _|exact A6|exact Bp|exact trivial|refine B7 ?_|refine AK ?_|refine And.intro ?_ ?_)),(by repeat'(first|exact Sub.refl _|exact A6|exact Bp|exact trivial|refine B7 ?_|refine AK ?_|refine And.intro ?_ ?_)),trivial⟩ ?_)
 all_goals(refine Au J (BJ ?_);simp[*])
end Go.Proofs.YtpdmaenhenfofaaGreatDoor
namespace Go.Proofs.YtpdmaenhenfofaaGreatDoor
open Go.Am
attribute [local irreducible] Decidable.decide
set_option maxRecDepth 100000
set_option maxHeartbeats 1000000
theorem Aoe {x:Entry} (hk:x.kind=5):((decide (x.row.offset=0)&&Io x.row)&&decide ((⟨x.kind,x.b,x.yes,x.next,x.offset,Ia,x.prod⟩:Entry)=El x.kind))=B9 x:=by
 unfold B9 Dm Fd
 simp only[hk,if_true,if_false,Int.reduceEq]
 rcases x with⟨k1,⟨p1,e1,s1,t1,r1⟩,y1,n1,o1,⟨ro1,rp1,rs1,rk1,rv1⟩,⟨pp1,pe1,pn1,ps1⟩⟩
 simp only at hk
 subst hk
 rw[Bool.eq_iff_iff]
 simp[El,IG]
 try grind
theorem Ama (hK:JZ) (x:Entry) (hk:x.kind=5) (ha:x.b.recs.length≤1000000) (hp:x.prod.seen.length≤1000000):Ct Tryz.prog 109 [.agg (Aj (A4 x))] [] (.t (.bool (B9 x))) []:=by
 rw[←Aoe hk]
 refine ct0 Ac Tryz.func109 J false J J ?_
 repeat'(first|refine An Ac J J J J J ?_|refine Ae Ac J J J ?_|refine Ag ?_|refine Ah ?_|refine Ai Ac J J ?_|(refine AZ J J J J J (ht:=fun h=>?_) (hf:=fun h=>?_)<;>try exact prn)|(refine Af J (ht:=fun h=>?_) (hf:=fun h=>?_)<;>try exact prn)|refine Al ?_|refine Ao ?_|refine AB ?_|refine Ar ?_|refine Ak Ac J J J J J J J (Aed x.row) J J ?_|refine Ck Ac J J J J (FI ⟨x.kind,x.b,x.yes,x.next,x.offset,Ia,x.prod⟩ (El x.kind) (by first|omega|simp) (by first|omega|simp)) J J J ⟨(by repeat'(first|exact Sub.refl _|exact A6|exact Bp|exact trivial|refine B7 ?_|refine AK ?_|refine And.intro ?_ ?_)),(by repeat'(first|exact Sub.refl _|exact A6|exact Bp|exact trivial|refine B7 ?_|refine AK ?_|refine And.intro ?_ ?_)),trivial⟩ ?_)
 all_goals(refine Au J (BJ ?_);simp[*])
end Go.Proofs.YtpdmaenhenfofaaGreatDoor
namespace Go.Proofs.YtpdmaenhenfofaaGreatDoor
open Go.Am
attribute [local irreducible] Decidable.decide
set_option maxRecDepth 100000
set_option maxHeartbeats 1000000
theorem Aod {x:Entry} (hk:x.kind=6):(C2 x.prod&&decide ((⟨x.kind,x.b,x.yes,x.next,x.offset,x.row,DG⟩:Entry)=El x.kind))=B9 x:=by
 unfold B9 Dm Fd
 simp only[hk,if_true,if_false,Int.reduceEq]
 rcases x with⟨k1,⟨p1,e1,s1,t1,r1⟩,y1,n1,o1,⟨ro1,rp1,rs1,rk1,rv1⟩,⟨pp1,pe1,pn1,ps1⟩⟩
 simp only at hk
 subst hk
 rw[Bool.eq_iff_iff]
 simp[El,IG]
 try grind
theorem Al9 (hK:JZ) (x:Entry) (hk:x.kind=6) (ha:x.b.recs.length≤1000000) (hp:x.prod.seen.length≤1000000):Ct Tryz.prog 109 [.agg (Aj (A4 x))] [] (.t (.bool (B9 x))) []:=by
 rw[←Aod hk]
 refine ct0 Ac Tryz.func109 J false J J ?_
 repeat'(first|refine An Ac J J J J J ?_|refine Ae Ac J J J ?_|refine Ag ?_|refine Ah ?_|refine Ai Ac J J ?_|(refine AZ J J J J J (ht:=fun h=>?_) (hf:=fun h=>?_)<;>try exact prn)|(refine Af J (ht:=fun h=>?_) (hf:=fun h=>?_)<;>try exact prn)|refine Al ?_|refine Ao ?_|refine AB ?_|refine Ar ?_|refine Ak Ac J J J J J J J (hK x.prod hp) J J ?_|refine Ck Ac J J J J (FI ⟨x.kind,x.b,x.yes,x.next,x.offset,x.row,DG⟩ (El x.kind) (by first|omega|simp) (by first|omega|simp)) J J J ⟨(by repeat'(first|exact Sub.refl _|exact A6|exact Bp|exact trivial|refine B7 ?_|refine AK ?_|refine And.intro ?_ ?_)),(by repeat'(first|exact Sub.refl _|exact A6|exact Bp|exact trivial|refine B7 ?_|refine AK ?_|refine And.intro ?_ ?_)),trivial⟩ ?_)
 all_goals(refine Au J (BJ ?_);simp[*])
end Go.Proofs.YtpdmaenhenfofaaGreatDoor
namespace Go.Proofs.YtpdmaenhenfofaaGreatDoor
open Go.Am
attribute [local irreducible] Decidable.decide
set_option maxRecDepth 100000
set_option maxHeartbeats 1000000
theorem Aof {x:Entry} (hk:x.kind=4):(!x.yes&&decide (0≤x.next∧x.next≤1048576)&&decide (1≤x.b.pid∧x.b.pid≤8∧0≤x.b.epoch∧x.b.epoch≤100)&&decide ((⟨x.kind,⟨0,0,x.b.seq,x.b.txn,x.b.recs⟩,false,0,x.offset,x.row,x.prod⟩:Entry)=El x.kind))=B9 x:=by
 unfold B9 Dm Fd
 simp only[hk,if_true,if_false,Int.reduceEq]
 rcases x with⟨k1,⟨p1,e1,s1,t1,r1⟩,y1,n1,o1,⟨ro1,rp1,rs1,rk1,rv1⟩,⟨pp1,pe1,pn1,ps1⟩⟩
 simp only at hk
 subst hk
 rw[Bool.eq_iff_iff]
 simp[El,IG]
 try grind
theorem Amb (x:Entry) (hk:x.kind=4) (ha:x.b.recs.length≤1000000) (hp:x.prod.seen.length≤1000000):Ct Tryz.prog 109 [.agg (Aj (A4 x))] [] (.t (.bool (B9 x))) []:=by
 rw[←Aof hk]
 refine ct0 Ac Tryz.func109 J false J J ?_
 repeat'(first|refine An Ac J J J J J ?_|refine Ae Ac J J J ?_|refine Ag ?_|refine Ah ?_|refine Ai Ac J J ?_|(refine AZ J J J J J (ht:=fun h=>?_) (hf:=fun h=>?_)<;>try exact prn)|(refine AP J J J J J (ht:=fun h=>?_) (hf:=fun h=>?_)<;>try exact prn)|(refine Af J (ht:=fun h=>?_) (hf:=fun h=>?_)<;>try exact prn)|refine Al ?_|refine Ao ?_|refine AB ?_|refine Ar ?_|refine Ak Ac J J J J J J J (S3 _) J J ?_|refine Ak Ac J J J J J J J (Gk _ _) J J ?_|refine Ck Ac J J J J (FI ⟨x.kind,⟨0,0,x.b.seq,x.b.txn,x.b.recs⟩,false,0,x.offset,x.row,x.prod⟩ (El x.kind) (by first|omega|simp) (by first|omega|simp)) J J J ⟨(by repeat'(first|exact Sub.refl _|exact A6|exact Bp|exact trivial|refine B7 ?_|refine AK ?_|refine And.intro ?_ ?_)),(by repeat'(first|exact Sub.refl _|exact A6|exact Bp|exact trivial|refine B7 ?_|refine AK ?_|refine And.intro ?_ ?_)),trivial⟩ ?_)
 all_goals(refine Au J (BJ ?_);(try simp only[Decidable.not_not]at*);simp[*])
end Go.Proofs.YtpdmaenhenfofaaGreatDoor
namespace Go.Proofs.YtpdmaenhenfofaaGreatDoor
open Go.Am
attribute [local irreducible] Decidable.decide
set_option maxRecDepth 100000
set_option maxHeartbeats 1000000
def QS (x:Entry):Entry:=if x.yes=true then⟨x.kind,b0,false,0,x.offset,x.row,x.prod⟩else⟨x.kind,b0,x.yes,x.next,x.offset,x.row,x.prod⟩
theorem Aog {x:Entry} (hk:x.kind=3):(x.b.txn&&(!x.yes||decide (0≤x.next∧x.next≤1048576))&&A1 x.b&&decide (QS x=El x.kind))=B9 x:=by
 unfold B9 Dm Fd QS
 simp only[hk,if_true,if_false,Int.reduceEq]
 generalize A1 x.b=mb
 rcases x with⟨k1,⟨p1,e1,s1,t1,r1⟩,y1,n1,o1,⟨ro1,rp1,rs1,rk1,rv1⟩,⟨pp1,pe1,pn1,ps1⟩⟩
 simp only at hk
 subst hk
 rw[Bool.eq_iff_iff]
 cases y1<;>simp[El,IG]<;>grind
theorem Amc (x:Entry) (hk:x.kind=3) (ha:x.b.recs.length≤1000000) (hp:x.prod.seen.length≤1000000):Ct Tryz.prog 109 [.agg (Aj (A4 x))] [] (.t (.bool (B9 x))) []:=by
 rw[←Aog hk]
 refine ct0 Ac Tryz.func109 J false J J ?_
 by_cases hy:x.yes=true
 ·have hr:QS x=⟨x.kind,b0,false,0,x.offset,x.row,x.prod⟩:=by simp[QS,hy]
  rw[hr]
  repeat'(first|refine An Ac J J J J J ?_|refine Ae Ac J J J ?_|refine Ag ?_|refine Ah ?_|refine Ai Ac J J ?_|(refine AZ J J J J J (ht:=fun h=>?_) (hf:=fun h=>?_)<;>try exact prn)|(refine AP J J J J J (ht:=fun h=>?_) (hf:=fun h=>?_)<;>try exact prn)|refine Gz J J J J J ?_|(refine Af J (ht:=fun h=>?_) (hf:=fun h=>?_)<;>try exact prn)|refine Al ?_|refine Ao ?_|refine AB ?_|refine Ar ?_|refine Ak Ac J J J J J J J (GV x.b O) J J ?_|refine Ak Ac J J J J J J J (S3 _) J J ?_|refine Ck Ac J J J J (FI ⟨x.kind,b0,false,0,x.offset,x.row,x.prod⟩ (El x.kind) (by first|omega|simp) (by first|omega|simp)) J J J ⟨(by repeat'(first|exact Sub.refl _|exact A6|exact Bp|exact trivial|refine B7 ?_|refine AK ?_|refine And.intro ?_ ?_)),(by repeat'(first|exact Sub.refl _|exact A6|exact Bp|exact trivial|refine B7 ?_|refine AK ?_|refine And.intro ?_ ?_)),trivial⟩ ?_)
  all_goals(refine Au J (BJ ?_);clear hr;(try simp only[Decidable.not_not]at*);simp[*])
 ·have hr:QS x=⟨x.kind,b0,x.yes,x.next,x.offset,x.row,x.prod⟩:=by simp[QS,hy]
  rw[hr]
  repeat'(first|refine An Ac J J J J J ?_|refine Ae Ac J J J ?_|refine Ag ?_|refine Ah ?_|refine Ai Ac J J ?_|(refine AZ J J J J J (ht:=fun h=>?_) (hf:=fun h=>?_)<;>try exact prn)|(refine AP J J J J J (ht:=fun h=>?_) (hf:=fun h=>?_)<;>try exact prn)|refine Gz J J J J J ?_|(refine Af J (ht:=fun h=>?_) (hf:=fun h=>?_)<;>try exact prn)|refine Al ?_|refine Ao ?_|refine AB ?_|refine Ar ?_|refine Ak Ac J J J J J J J (GV x.b O) J J ?_|refine Ck Ac J J J J (FI ⟨x.kind,b0,x.yes,x.next,x.offset,x.row,x.prod⟩ (El x.kind) (by first|omega|simp) (by first|omega|simp)) J J J ⟨(by repeat'(first|exact Sub.refl _|exact A6|exact Bp|exact trivial|refine B7 ?_|refine AK ?_|refine And.intro ?_ ?_)),(by repeat'(first|exact Sub.refl _|exact A6|exact Bp|exact trivial|refine B7 ?_|refine AK ?_|refine And.intro ?_ ?_)),trivial⟩ ?_)
  all_goals(refine Au J (BJ ?_);clear hr;(try simp only[Decidable.not_not]at*);simp[*])
end Go.Proofs.YtpdmaenhenfofaaGreatDoor
namespace Go.Proofs.YtpdmaenhenfofaaGreatDoor
open Go.Am
attribute [local irreducible] Decidable.decide
set_option maxRecDepth 100000
set_option maxHeartbeats 1000000
theorem Al8 (x:Entry) (h0:x.kind≠0) (h1:x.kind≠1) (h2:x.kind≠2) (h3:x.kind≠3) (h4:x.kind≠4) (h5:x.kind≠5) (h6:x.kind≠6):Ct Tryz.prog 109 [.agg (Aj (A4 x))] [] (.t (.bool (B9 x))) []:=by
 refine ct0 Ac Tryz.func109 J false J J ?_
 repeat'(first|refine An Ac J J J J J ?_|refine Ae Ac J J J ?_|refine Ag ?_|refine Ah ?_|refine Ai Ac J J ?_|(refine AZ J J J J J (ht:=fun h=>?_) (hf:=fun h=>?_)<;>try exact prn)|(refine Af J (ht:=fun h=>?_) (hf:=fun h=>?_)<;>try exact prn)|refine Al ?_|refine Ao ?_|refine AB ?_|refine Ar ?_)
 all_goals(refine Au J (BJ ?_);simp[B9, *])
theorem Ha (hK:JZ) (x:Entry) (ha:x.b.recs.length≤1000000) (hp:x.prod.seen.length≤1000000):Ct Tryz.prog 109 [.agg (Aj (A4 x))] [] (.t (.bool (B9 x))) []:=by
 by_cases h0:x.kind=0
 ·exact Amf hK x h0 ha hp
 by_cases h1:x.kind=1
 ·exact Ame hK x h1 ha hp
 by_cases h2:x.kind=2
 ·exact Amd hK x h2 ha hp
 by_cases h3:x.kind=3
 ·exact Amc x h3 ha hp
 by_cases h4:x.kind=4
 ·exact Amb x h4 ha hp
 by_cases h5:x.kind=5
 ·exact Ama hK x h5 ha hp
 by_cases h6:x.kind=6
 ·exact Al9 hK x h6 ha hp
 exact Al8 x h0 h1 h2 h3 h4 h5 h6
end Go.Proofs.YtpdmaenhenfofaaGreatDoor
