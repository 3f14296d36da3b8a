/- Contracts and laws, joined: Pg, Pg1, Pg2, Pg5, Pg6, Ph. No condition beside those that each theorem names. -/
import Derived.Test.YtmohpcgmdheafaaGreatDoorZK1
set_option linter.unusedVariables false
set_option linter.unusedSimpArgs false
set_option maxRecDepth 100000
set_option maxHeartbeats 8000000
namespace Go.Proofs.YtmohpcgmdheafaaGreatDoor
open Go.Am
attribute [local irreducible] Decidable.decide Tr A2 hSK hSW
def Lv:Prop:= ∀p:Prod,p.seen.length<=1000000->A17 269 [.agg (Ah (Al p))] [] (.t (.bool (C1 p))) []
def E3 (k:Int):Entry:=⟨k,b0,false,0,0,Lw,Gy⟩
theorem A1m {x:Entry} (hk:x.kind=0):(A9 x.b&&decide ((⟨x.kind,b0,x.yes,x.next,x.offset,x.row,x.prod⟩:Entry)=E3 x.kind))=B9 x:=by
 unfold B9 DS Gr
 simp only[hk,if_true,if_false,Int.reduceEq]
 rcases x with⟨k1,⟨p1,e1,s1,t1,r1⟩,y1,n1,o1,⟨ro1,rp1,rs1,rk1,rv1⟩,⟨pp1,pe1,pn1,ps1⟩⟩
 simp only at hk
 subst hk
 rw[Bool.eq_iff_iff]
 simp[E3,K8]
 try grind
theorem Ay7 (hK:Lv) (x:Entry) (hk:x.kind=0) (ha:x.b.recs.length<=1000000) (hp:x.prod.seen.length<=1000000):A17 347 [.agg (Ah (Az x))] [] (.t (.bool (B9 x))) []:=by
 rw[<-A1m hk]
 refine ct0 Ag Tryz.func347 Y false Y Y ?_
 repeat'(first|exact prB|refine stC ?_|refine stU (fun h=>?_) fun h=>?_|refine stL ?_ (c:=Fl x.b Aa)|refine stL ?_ (c:=GG _)|refine stL ?_ (c:=Dh _ _)|refine stL ?_ (c:=N3 x.row)|refine stL ?_ (c:=hK x.prod hp)|refine BG Ag Y Y Y Y (Gk ⟨x.kind,b0,x.yes,x.next,x.offset,x.row,x.prod⟩ (E3 x.kind) (by first|omega|simp) (by first|omega|simp)) Y Y Y ⟨(by repeat'(first|exact A1x _|exact Ak|exact Ar|exact trivial|refine AA ?_|refine Ap ?_|refine And.intro ?_ ?_)),(by repeat'(first|exact A1x _|exact Ak|exact Ar|exact trivial|refine AA ?_|refine Ap ?_|refine And.intro ?_ ?_)),trivial⟩ ?_|fail)
 all_goals(refine Ai Y (AP ?_);simp[*])
theorem A1l {x:Entry} (hk:x.kind=1):(decide (1<=x.b.pid/\x.b.pid<=8/\0<=x.b.epoch/\x.b.epoch<=100)&&decide ((⟨x.kind,⟨0,0,x.b.seq,x.b.txn,x.b.recs⟩,false,x.next,x.offset,x.row,x.prod⟩:Entry)=E3 x.kind))=B9 x:=by
 unfold B9 DS Gr
 simp only[hk,if_true,if_false,Int.reduceEq]
 rcases x with⟨k1,⟨p1,e1,s1,t1,r1⟩,y1,n1,o1,⟨ro1,rp1,rs1,rk1,rv1⟩,⟨pp1,pe1,pn1,ps1⟩⟩
 simp only at hk
 subst hk
 rw[Bool.eq_iff_iff]
 simp[E3,K8]
 try grind
theorem Ay6 (hK:Lv) (x:Entry) (hk:x.kind=1) (ha:x.b.recs.length<=1000000) (hp:x.prod.seen.length<=1000000):A17 347 [.agg (Ah (Az x))] [] (.t (.bool (B9 x))) []:=by
 rw[<-A1l hk]
 refine ct0 Ag Tryz.func347 Y false Y Y ?_
 repeat'(first|exact prB|refine stC ?_|refine stU (fun h=>?_) fun h=>?_|refine stL ?_ (c:=Fl x.b Aa)|refine stL ?_ (c:=GG _)|refine stL ?_ (c:=Dh _ _)|refine stL ?_ (c:=N3 x.row)|refine stL ?_ (c:=hK x.prod hp)|refine BG Ag Y Y Y Y (Gk ⟨x.kind,⟨0,0,x.b.seq,x.b.txn,x.b.recs⟩,false,x.next,x.offset,x.row,x.prod⟩ (E3 x.kind) (by first|omega|simp) (by first|omega|simp)) Y Y Y ⟨(by repeat'(first|exact A1x _|exact Ak|exact Ar|exact trivial|refine AA ?_|refine Ap ?_|refine And.intro ?_ ?_)),(by repeat'(first|exact A1x _|exact Ak|exact Ar|exact trivial|refine AA ?_|refine Ap ?_|refine And.intro ?_ ?_)),trivial⟩ ?_|fail)
 all_goals(refine Ai Y (AP ?_);simp[*])
theorem A1k {x:Entry} (hk:x.kind=2):(decide (0<=x.offset/\x.offset<=1048576)&&decide ((⟨x.kind,x.b,x.yes,x.next,0,x.row,x.prod⟩:Entry)=E3 x.kind))=B9 x:=by
 unfold B9 DS Gr
 simp only[hk,if_true,if_false,Int.reduceEq]
 rcases x with⟨k1,⟨p1,e1,s1,t1,r1⟩,y1,n1,o1,⟨ro1,rp1,rs1,rk1,rv1⟩,⟨pp1,pe1,pn1,ps1⟩⟩
 simp only at hk
 subst hk
 rw[Bool.eq_iff_iff]
 simp[E3,K8]
 try grind
theorem Ay5 (hK:Lv) (x:Entry) (hk:x.kind=2) (ha:x.b.recs.length<=1000000) (hp:x.prod.seen.length<=1000000):A17 347 [.agg (Ah (Az x))] [] (.t (.bool (B9 x))) []:=by
 rw[<-A1k hk]
 refine ct0 Ag Tryz.func347 Y false Y Y ?_
 repeat'(first|exact prB|refine stC ?_|refine stU (fun h=>?_) fun h=>?_|refine stL ?_ (c:=Fl x.b Aa)|refine stL ?_ (c:=GG _)|refine stL ?_ (c:=Dh _ _)|refine stL ?_ (c:=N3 x.row)|refine stL ?_ (c:=hK x.prod hp)|refine BG Ag Y Y Y Y (Gk ⟨x.kind,x.b,x.yes,x.next,0,x.row,x.prod⟩ (E3 x.kind) (by first|omega|simp) (by first|omega|simp)) Y Y Y ⟨(by repeat'(first|exact A1x _|exact Ak|exact Ar|exact trivial|refine AA ?_|refine Ap ?_|refine And.intro ?_ ?_)),(by repeat'(first|exact A1x _|exact Ak|exact Ar|exact trivial|refine AA ?_|refine Ap ?_|refine And.intro ?_ ?_)),trivial⟩ ?_|fail)
 all_goals(refine Ai Y (AP ?_);simp[*])
theorem A1h {x:Entry} (hk:x.kind=5):((decide (x.row.offset=0)&&FD x.row)&&decide ((⟨x.kind,x.b,x.yes,x.next,x.offset,Lw,x.prod⟩:Entry)=E3 x.kind))=B9 x:=by
 unfold B9 DS Gr
 simp only[hk,if_true,if_false,Int.reduceEq]
 rcases x with⟨k1,⟨p1,e1,s1,t1,r1⟩,y1,n1,o1,⟨ro1,rp1,rs1,rk1,rv1⟩,⟨pp1,pe1,pn1,ps1⟩⟩
 simp only at hk
 subst hk
 rw[Bool.eq_iff_iff]
 simp[E3,K8]
 try grind
theorem Ay2 (hK:Lv) (x:Entry) (hk:x.kind=5) (ha:x.b.recs.length<=1000000) (hp:x.prod.seen.length<=1000000):A17 347 [.agg (Ah (Az x))] [] (.t (.bool (B9 x))) []:=by
 rw[<-A1h hk]
 refine ct0 Ag Tryz.func347 Y false Y Y ?_
 repeat'(first|exact prB|refine stC ?_|refine stU (fun h=>?_) fun h=>?_|refine stL ?_ (c:=Fl x.b Aa)|refine stL ?_ (c:=GG _)|refine stL ?_ (c:=Dh _ _)|refine stL ?_ (c:=N3 x.row)|refine stL ?_ (c:=hK x.prod hp)|refine BG Ag Y Y Y Y (Gk ⟨x.kind,x.b,x.yes,x.next,x.offset,Lw,x.prod⟩ (E3 x.kind) (by first|omega|simp) (by first|omega|simp)) Y Y Y ⟨(by repeat'(first|exact A1x _|exact Ak|exact Ar|exact trivial|refine AA ?_|refine Ap ?_|refine And.intro ?_ ?_)),(by repeat'(first|exact A1x _|exact Ak|exact Ar|exact trivial|refine AA ?_|refine Ap ?_|refine And.intro ?_ ?_)),trivial⟩ ?_|fail)
 all_goals(refine Ai Y (AP ?_);simp[*])
theorem A1g {x:Entry} (hk:x.kind=6):(C1 x.prod&&decide ((⟨x.kind,x.b,x.yes,x.next,x.offset,x.row,Gy⟩:Entry)=E3 x.kind))=B9 x:=by
 unfold B9 DS Gr
 simp only[hk,if_true,if_false,Int.reduceEq]
 rcases x with⟨k1,⟨p1,e1,s1,t1,r1⟩,y1,n1,o1,⟨ro1,rp1,rs1,rk1,rv1⟩,⟨pp1,pe1,pn1,ps1⟩⟩
 simp only at hk
 subst hk
 rw[Bool.eq_iff_iff]
 simp[E3,K8]
 try grind
theorem Ay1 (hK:Lv) (x:Entry) (hk:x.kind=6) (ha:x.b.recs.length<=1000000) (hp:x.prod.seen.length<=1000000):A17 347 [.agg (Ah (Az x))] [] (.t (.bool (B9 x))) []:=by
 rw[<-A1g hk]
 refine ct0 Ag Tryz.func347 Y false Y Y ?_
 repeat'(first|exact prB|refine stC ?_|refine stU (fun h=>?_) fun h=>?_|refine stL ?_ (c:=Fl x.b Aa)|refine stL ?_ (c:=GG _)|refine stL ?_ (c:=Dh _ _)|refine stL ?_ (c:=N3 x.row)|refine stL ?_ (c:=hK x.prod hp)|refine BG Ag Y Y Y Y (Gk ⟨x.kind,x.b,x.yes,x.next,x.offset,x.row,Gy⟩ (E3 x.kind) (by first|omega|simp) (by first|omega|simp)) Y Y Y ⟨(by repeat'(first|exact A1x _|exact Ak|exact Ar|exact trivial|refine AA ?_|refine Ap ?_|refine And.intro ?_ ?_)),(by repeat'(first|exact A1x _|exact Ak|exact Ar|exact trivial|refine AA ?_|refine Ap ?_|refine And.intro ?_ ?_)),trivial⟩ ?_|fail)
 all_goals(refine Ai Y (AP ?_);simp[*])
theorem A1i {x:Entry} (hk:x.kind=4):(!x.yes&&decide (0<=x.next/\x.next<=1048576)&&decide (1<=x.b.pid/\x.b.pid<=8/\0<=x.b.epoch/\x.b.epoch<=100)&&decide ((⟨x.kind,⟨0,0,x.b.seq,x.b.txn,x.b.recs⟩,false,0,x.offset,x.row,x.prod⟩:Entry)=E3 x.kind))=B9 x:=by
 unfold B9 DS Gr
 simp only[hk,if_true,if_false,Int.reduceEq]
 rcases x with⟨k1,⟨p1,e1,s1,t1,r1⟩,y1,n1,o1,⟨ro1,rp1,rs1,rk1,rv1⟩,⟨pp1,pe1,pn1,ps1⟩⟩
 simp only at hk
 subst hk
 rw[Bool.eq_iff_iff]
 simp[E3,K8]
 try grind
theorem Ay3 (x:Entry) (hk:x.kind=4) (ha:x.b.recs.length<=1000000) (hp:x.prod.seen.length<=1000000):A17 347 [.agg (Ah (Az x))] [] (.t (.bool (B9 x))) []:=by
 rw[<-A1i hk]
 refine ct0 Ag Tryz.func347 Y false Y Y ?_
 repeat'(first|exact prB|refine stC ?_|refine stU (fun h=>?_) fun h=>?_|refine stL ?_ (c:=GG _)|refine stL ?_ (c:=Dh _ _)|refine BG Ag Y Y Y Y (Gk ⟨x.kind,⟨0,0,x.b.seq,x.b.txn,x.b.recs⟩,false,0,x.offset,x.row,x.prod⟩ (E3 x.kind) (by first|omega|simp) (by first|omega|simp)) Y Y Y ⟨(by repeat'(first|exact A1x _|exact Ak|exact Ar|exact trivial|refine AA ?_|refine Ap ?_|refine And.intro ?_ ?_)),(by repeat'(first|exact A1x _|exact Ak|exact Ar|exact trivial|refine AA ?_|refine Ap ?_|refine And.intro ?_ ?_)),trivial⟩ ?_|fail)
 all_goals(refine Ai Y (AP ?_);(try simp only[Decidable.not_not]at*);simp[*])
end Go.Proofs.YtmohpcgmdheafaaGreatDoor
