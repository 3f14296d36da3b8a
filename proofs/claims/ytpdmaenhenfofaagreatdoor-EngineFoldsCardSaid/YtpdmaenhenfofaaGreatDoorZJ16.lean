/- Contracts and laws, joined: Tk, Tl, Tm. No condition beside those that each theorem names. -/
import Derived.Test.YtpdmaenhenfofaaGreatDoorZM10
import Derived.Test.YtpdmaenhenfofaaGreatDoorZJ15
set_option linter.unusedVariables false
set_option linter.unusedSimpArgs false
namespace Go.Proofs.YtpdmaenhenfofaaGreatDoor
open Go.Am
attribute [local irreducible] Decidable.decide
set_option maxRecDepth 100000
set_option maxHeartbeats 1000000
def Np (n:Int):Entry:={kind:=2,b:=⟨0,0,0,false,[]⟩,yes:=false,next:=0,offset:=n,row:=⟨0,0,0,[],[]⟩,prod:=CZ}
theorem LP {n:Int} (h1:0≤n) (h2:n≤1048576):B9 (Np n)=true:=by
 have hb:Dm (Np n)=true:=by simp[Dm,Fd,Np,IG,CZ]
 simp only[B9,hb,Bool.true_and]
 simp[Np,h1,h2]
theorem VP (p:Part) (n:Int) (hs:Bt p) (hp:Fm p=true) (hin:n<p.start∨p.fin<n):Ct Tryz.prog 78 [.agg (Aj (A5 p)),.t (.int .i64 n)] [] (.tuple [.agg (Aj (A5 Cq)),.t (.int .i64 130)]) []:=by
 obtain⟨h1,h2,h3,h4,h5⟩:=hs
 have cpl:=TC p n hp O O
 rw[show Mt p n=Cv 290 [97,32,112,108,97,99,101] 130 from if_pos hin]at cpl
 refine ct0 Ac Tryz.func78 J false J J ?_
 repeat'(first|refine An Ac J J J J J ?_|refine Ae Ac J J J ?_|refine Ag ?_|refine Ah ?_|refine Ai Ac J J ?_|(refine Af J (ht:=fun h=>?_) (hf:=fun h=>?_)<;>try exact prn)|refine Ar ?_|refine Ak Ac J J J J J J J (cpl) J J ?_|refine Ak Ac J J J J J J J (QT [97,32,112,108,97,99,101] 130) J J ?_)
 exact Au J (AK ⟨Gt,Sub.refl _,trivial⟩)
def Cut (e q:Int) (p:Part) (n:Int):EO:=
 if DQ e q p=true then⟨Cq,[],2⟩
 else if n<p.start∨p.fin<n then⟨Cq,[],130⟩
 else⟨LW p n,CX (DH e q) [Np n],0⟩
theorem Ai0 (e q:Int) (p:Part) (n:Int) (hs:Bt p):Ct Tryz.prog 43 [.t (.int .i8 e),.t (.int .i64 q),.agg (Aj (A5 p)),.t (.int .i64 n)] [] (Cut e q p n).av []:=by
 cases hbad:DQ e q p with
 |true=>
  have cof:=Xn e q p hs
  obtain⟨h1,s,h2⟩:=VZ hbad
  have hr:Cut e q p n=⟨Cq,[],2⟩:=by simp[Cut,hbad]
  rw[hr]
  rw[h1,h2]at cof
  refine ct0 Ac Tryz.func43 J false J J ?_
  repeat'(first|refine An Ac J J J J J ?_|refine Ae Ac J J J ?_|refine Ag ?_|refine Ah ?_|refine Ai Ac J J ?_|(refine Af J (ht:=fun h=>?_) (hf:=fun h=>?_)<;>try exact prn)|refine Ar ?_|refine Ak Ac J J J J J J J (cof) J J ?_|refine Ak Ac J J J J J J J (HH s 2) J J ?_)
  exact Au J (AK ⟨Gt,A6,Sub.refl _,trivial⟩)
 |false=>
  have cof:=Wa e q p hbad hs
  obtain⟨_,he,hq,hpk⟩:=F5 hbad
  have hP:=Aoo.1 hpk
  have hro:Fm p=true:=by
   have h:=hpk
   simp only[Er,It,Bool.and_eq_true]at h
   exact h.1.1
  by_cases hin:n<p.start∨p.fin<n
  ·have hr:Cut e q p n=⟨Cq,[],130⟩:=by simp[Cut,hbad,hin]
   rw[hr]
   have cc:=VP p n hs hro hin
   refine ct0 Ac Tryz.func43 J false J J ?_
   repeat'(first|refine An Ac J J J J J ?_|refine Ae Ac J J J ?_|refine Ag ?_|refine Ah ?_|refine Ai Ac J J ?_|(refine Af J (ht:=fun h=>?_) (hf:=fun h=>?_)<;>try exact prn)|refine Ao ?_|refine Ar ?_|refine Ak Ac J J J J J J J (cof) J J ?_|refine Ak Ac J J J J J J J (cc) J J ?_)
   exact Au J (AK ⟨Gt,A6,Sub.refl _,trivial⟩)
  ·have hr:Cut e q p n=⟨LW p n,CX (DH e q) [Np n],0⟩:=by simp[Cut,hbad,hin]
   rw[hr]
   have cc:=Adg p n hs hro hP.srt O
   have b0:=hP.b0
   have b2:=hP.b2
   have hm:=LP (n:=n) O O
   have ep:=LO (DH e q) [Np n] Z (by simp[DV,Np,CZ])
   rw[show PJ [Np n]=0 by simp[PJ,hm],show Of (DH e q) [Np n]=CX (DH e q) [Np n]by simp[Of,hm]]at ep
   have cl:=G2 e q he hq
   have hw:(e=0∧wrT e q=.iface 152 (.agg (BK e q)))∨(e=1∧wrT e q=.iface 153 (.agg (BK e q))):=by
    rcases he with rfl|rfl
    ·exact .inl ⟨J,J⟩
    ·exact .inr ⟨J,J⟩
   rcases hw with⟨he1,hw⟩|⟨he1,hw⟩
   ·rw[hw]at cof
    refine ct0 Ac Tryz.func43 J false J J ?_
    repeat'(first|refine An Ac J J J J J ?_|refine Ae Ac J J J ?_|refine Ag ?_|refine Ah ?_|refine Ai Ac J J ?_|(refine Af J (ht:=fun h=>?_) (hf:=fun h=>?_)<;>try exact prn)|refine Ao ?_|refine Ar ?_|refine Ak Ac J J J J J J J (cof) J J ?_|refine Ak Ac J J J J J J J (cc) J J ?_|refine Ak Ac J J J J J J J (cl) J J ?_|refine Ck Ac J J J J ep J J J ⟨Sub.refl _,Hh ⟨⟨AJ.refl _,AJ.refl _,AJ.refl _,AJ.refl _,AJ.refl _,AJ.nil,AJ.refl _,AJ.refl _,AJ.refl _,AJ.refl _,AJ.refl _,AJ.refl _,AJ.refl _,AJ.refl _,AJ.refl _,AJ.refl _,AJ.refl _,AJ.nil,trivial⟩,trivial⟩,trivial⟩ ?_)
    exact Au J (Sub.refl _)
   ·rw[hw]at cof
    refine ct0 Ac Tryz.func43 J false J J ?_
    repeat'(first|refine An Ac J J J J J ?_|refine Ae Ac J J J ?_|refine Ag ?_|refine Ah ?_|refine Ai Ac J J ?_|(refine Af J (ht:=fun h=>?_) (hf:=fun h=>?_)<;>try exact prn)|refine Ao ?_|refine Ar ?_|refine Ak Ac J J J J J J J (cof) J J ?_|refine Ak Ac J J J J J J J (cc) J J ?_|refine Ak Ac J J J J J J J (cl) J J ?_|refine Ck Ac J J J J ep J J J ⟨Sub.refl _,Hh ⟨⟨AJ.refl _,AJ.refl _,AJ.refl _,AJ.refl _,AJ.refl _,AJ.nil,AJ.refl _,AJ.refl _,AJ.refl _,AJ.refl _,AJ.refl _,AJ.refl _,AJ.refl _,AJ.refl _,AJ.refl _,AJ.refl _,AJ.refl _,AJ.nil,trivial⟩,trivial⟩,trivial⟩ ?_)
    exact Au J (Sub.refl _)
end Go.Proofs.YtpdmaenhenfofaaGreatDoor
namespace Go.Proofs.YtpdmaenhenfofaaGreatDoor
open Go.Am
attribute [local irreducible] Decidable.decide
set_option maxRecDepth 100000
set_option maxHeartbeats 1000000
structure Act2 where
 kind:Int
 b:Batch
 pid:Int
 yes:Bool
 to:Int
def E9 (a:Act2):List T:=.int .i64 a.kind::Ap a.b++[.int .i64 a.pid,.bool a.yes,.int .i64 a.to]
def txB (a:Act2):Batch:={a.b with txn:=decide (a.b.pid≤5)}
def Cw (e:Int) (p:Part) (a:Act2):PO:=
 if a.kind=0 then(if(B8 e 1 p (txB a)).e≠0 then⟨p,0,[],(B8 e 1 p (txB a)).e⟩else B8 e 1 p (txB a))
 else if a.kind=1 then(if(End e 1 p a.pid a.yes).e≠0 then⟨p,0,[],(End e 1 p a.pid a.yes).e⟩else⟨(End e 1 p a.pid a.yes).part,0,(End e 1 p a.pid a.yes).w,(End e 1 p a.pid a.yes).e⟩)
 else if a.kind=2 then(if(Cut e 1 p a.to).e≠0 then⟨p,0,[],(Cut e 1 p a.to).e⟩else⟨(Cut e 1 p a.to).part,0,(Cut e 1 p a.to).w,(Cut e 1 p a.to).e⟩)
 else⟨p,0,[],0⟩
theorem Aer (e:Int) (p:Part) (a:Act2) (hs:Bt p) (hl:a.b.recs.length≤1000000):Ct Tryz.prog 20 [.t (.int .i8 e),.agg (Aj (A5 p)),.agg (Aj (E9 a))] [] (Cw e p a).av []:=by
 have cp:=WI e 1 p (txB a) hs hl
 have ce:=Aiz e 1 p a.pid a.yes hs
 have cc:=Ai0 e 1 p a.to hs
 unfold Cw
 by_cases h0:a.kind=0
 ·rw[if_pos h0]
  generalize B8 e 1 p (txB a)=r at cp
  unfold PO.av at cp
  by_cases hr:r.e=0
  ·rw[if_neg (by simpa using hr)]
   refine ct0 Ac Tryz.func20 J false J J ?_
   repeat'(first|refine An Ac J J J J J ?_|refine Ae Ac J J J ?_|refine Ag ?_|refine Ah ?_|refine Ai Ac J J ?_|(refine Af J (ht:=fun h=>?_) (hf:=fun h=>?_)<;>try exact prn)|refine Al ?_|refine Ao ?_|refine Ar ?_|refine Ak Ac J J J J J J J (cp) J J ?_)
   exact Au J (Sub.refl _)
  ·rw[if_pos hr]
   refine ct0 Ac Tryz.func20 J false J J ?_
   repeat'(first|refine An Ac J J J J J ?_|refine Ae Ac J J J ?_|refine Ag ?_|refine Ah ?_|refine Ai Ac J J ?_|(refine Af J (ht:=fun h=>?_) (hf:=fun h=>?_)<;>try exact prn)|refine Al ?_|refine Ar ?_|refine Ak Ac J J J J J J J (cp) J J ?_)
   exact Au J (AK ⟨Sub.refl _,Sub.refl _,A6,Sub.refl _,trivial⟩)
 rw[if_neg h0]
 by_cases h1:a.kind=1
 ·rw[if_pos h1]
  generalize End e 1 p a.pid a.yes=r at ce
  unfold EO.av at ce
  by_cases hr:r.e=0
  ·rw[if_neg (by simpa using hr)]
   refine ct0 Ac Tryz.func20 J false J J ?_
   repeat'(first|refine An Ac J J J J J ?_|refine Ae Ac J J J ?_|refine Ag ?_|refine Ah ?_|refine Ai Ac J J ?_|(refine Af J (ht:=fun h=>?_) (hf:=fun h=>?_)<;>try exact prn)|refine Al ?_|refine Ao ?_|refine Ar ?_|refine Ak Ac J J J J J J J (ce) J J ?_)
   exact Au J (Sub.refl _)
  ·rw[if_pos hr]
   refine ct0 Ac Tryz.func20 J false J J ?_
   repeat'(first|refine An Ac J J J J J ?_|refine Ae Ac J J J ?_|refine Ag ?_|refine Ah ?_|refine Ai Ac J J ?_|(refine Af J (ht:=fun h=>?_) (hf:=fun h=>?_)<;>try exact prn)|refine Al ?_|refine Ar ?_|refine Ak Ac J J J J J J J (ce) J J ?_)
   exact Au J (AK ⟨Sub.refl _,Sub.refl _,A6,Sub.refl _,trivial⟩)
 rw[if_neg h1]
 by_cases h2:a.kind=2
 ·rw[if_pos h2]
  generalize Cut e 1 p a.to=r at cc
  unfold EO.av at cc
  by_cases hr:r.e=0
  ·rw[if_neg (by simpa using hr)]
   refine ct0 Ac Tryz.func20 J false J J ?_
   repeat'(first|refine An Ac J J J J J ?_|refine Ae Ac J J J ?_|refine Ag ?_|refine Ah ?_|refine Ai Ac J J ?_|(refine Af J (ht:=fun h=>?_) (hf:=fun h=>?_)<;>try exact prn)|refine Al ?_|refine Ao ?_|refine Ar ?_|refine Ak Ac J J J J J J J (cc) J J ?_)
   exact Au J (Sub.refl _)
  ·rw[if_pos hr]
   refine ct0 Ac Tryz.func20 J false J J ?_
   repeat'(first|refine An Ac J J J J J ?_|refine Ae Ac J J J ?_|refine Ag ?_|refine Ah ?_|refine Ai Ac J J ?_|(refine Af J (ht:=fun h=>?_) (hf:=fun h=>?_)<;>try exact prn)|refine Al ?_|refine Ar ?_|refine Ak Ac J J J J J J J (cc) J J ?_)
   exact Au J (AK ⟨Sub.refl _,Sub.refl _,A6,Sub.refl _,trivial⟩)
 rw[if_neg h2]
 refine ct0 Ac Tryz.func20 J false J J ?_
 repeat'(first|refine An Ac J J J J J ?_|refine Ae Ac J J J ?_|refine Ag ?_|refine Ah ?_|refine Ai Ac J J ?_|(refine Af J (ht:=fun h=>?_) (hf:=fun h=>?_)<;>try exact prn)|refine Al ?_|refine Ao ?_|refine Ar ?_)
 exact Au J (AK ⟨Sub.refl _,Sub.refl _,A6,Sub.refl _,trivial⟩)
end Go.Proofs.YtpdmaenhenfofaaGreatDoor
namespace Go.Proofs.YtpdmaenhenfofaaGreatDoor
open Go.Am
attribute [local irreducible] Decidable.decide
set_option maxRecDepth 100000
set_option maxHeartbeats 1000000
theorem JM (l:List Prod) (pid:Int) (hl:l.length≤1000000):Ct Tryz.prog 24 [.t (.slice .any 4 (l.map Av)),.t (.int .i64 pid)] [] (.tuple [.agg (Aj (Av (AX l pid))),.t (.bool (CK l pid))]) []:=by
 have hlm:(l.map Av).length=l.length:=List.length_map ..
 refine ct0 Ac Tryz.func24 J false J J ?_
 repeat'(first|refine Ae Ac J J J ?_|refine Ag ?_|refine Ah ?_|refine Ai Ac J J ?_|refine Al ?_)
 refine AM (ι:=Nat) (fun i=>i≤l.length∧(l.take i).any (fun p=>decide (p.pid=pid))=false) (fun i=>[(0,.t (.slice .any 4 (l.map Av))),(1,.t (.int .i64 pid)),(4,.ref 8 0),(6,.t (.int .i64 i))]) (fun _=>[(8,.cells (Aj Ahs.zero))]) (fun i=>l.length-i) 0 Z ?_ ?_
 ·exact AR [] (Ad J J (Ad J J (Ad J J (Ad J J Aq)))) J
 rintro i ⟨hi,hany⟩
 by_cases hlt:i<l.length
 ·have hr:l[i]?=some l[i]:=List.getElem?_eq_getElem hlt
  generalize l[i]=r at hr
  have hi0:l=l.take i++r::l.drop (i+1):=by rw[←BE hr,List.take_append_drop]
  have hf0:(l.take i).find? (fun p=>decide (p.pid=pid))=none:=by
   rw[List.find?_eq_none];intro x hx;have:=List.any_eq_false.1 hany x hx;simpa using this
  repeat'(first|refine An Ac J J J J J ?_|refine Ae Ac J J J ?_|refine Ag ?_|refine Ah ?_|refine Ai Ac J J ?_|(refine Af J (ht:=fun h=>?_) (hf:=fun h=>?_)<;>try exact prn)|refine Al ?_|refine Ao ?_|refine Ar ?_|refine AD Ac J J J J J J J (A2 Aa) J ?_)
  ·have hq:l.find? (fun p=>decide (p.pid=pid))=some r:=by
    rw[hi0,List.find?_append,hf0];simp;exact .inl (by simpa using h)
   have hh:CK l pid=true:=List.any_eq_true.2 ⟨r,List.mem_of_getElem? hr,by simpa using h⟩
   exact Au J (Sub.of_eq (by rw[hh,show AX l pid=r by simp[AX,hq]];rfl))
  ·refine AF (i+1) ⟨hlt,Cd hr hany (by simpa using h)⟩ O [] (Ad J J (Ad J J (Ad J J (Ad J ?_ Aq)))) J
   rw[A0 O O];rfl
 ·repeat'(first|refine An Ac J J J J J ?_|refine Ae Ac J J J ?_|refine Ag ?_|refine Ah ?_|refine Ai Ac J J ?_|(refine Af J (ht:=fun h=>?_) (hf:=fun h=>?_)<;>try exact prn)|refine AB ?_|refine Ar ?_)
  have ha:=CM O hany
  have hq:l.find? (fun p=>decide (p.pid=pid))=none:=by
   rw[List.find?_eq_none];intro x hx;have:=List.any_eq_false.1 ha x hx;simpa using this
  refine Au J ?_
  rw[show CK l pid=false from ha,show AX l pid=CZ by simp[AX,hq]]
  exact AK ⟨B7 ⟨Sub.refl _,Sub.refl _,Sub.refl _,A6,trivial⟩,Sub.refl _,trivial⟩
def DP (l:List Act2):Bool:=decide (60<(l.length:Int))||l.any (fun a=>EW [a.b])
theorem K8 (l:List Act2):Ct Tryz.prog 19 [.t (.slice .any 9 (l.map E9))] [] (.t (.bool (DP l))) []:=by
 have hlm:(l.map E9).length=l.length:=List.length_map ..
 refine ct0 Ac Tryz.func19 J false J J ?_
 repeat'(first|refine Ae Ac J J J ?_|refine Ag ?_|refine Ah ?_|refine Ai Ac J J ?_|(refine Af J (ht:=fun h=>?_) (hf:=fun h=>?_)<;>try exact prn)|refine Al ?_|refine Ao ?_|refine Ar ?_)
 ·exact Au J (Sub.of_eq (by rw[show DP l=true by rw[DP,decide_eq_true (by simpa[hlm]using h)];rfl]))
 have hle:(l.length:Int)≤60:=by have:=h;simp[hlm]at this;omega
 refine AM (ι:=Nat) (fun i=>i≤l.length∧(l.take i).any (fun a=>EW [a.b])=false) (fun i=>[(8,.t (.slice .any 9 (l.map E9))),(9,.t (.int .i64 ((l.map E9).length:Int))),(10,.t (.int .i64 i))]) (fun _=>[]) (fun i=>l.length-i) 0 Z ?_ ?_
 ·exact AR [] (Ad J J (Ad J J (Ad J J Aq))) J
 rintro i ⟨hi,hany⟩
 by_cases hlt:i<l.length
 ·have hr:l[i]?=some l[i]:=List.getElem?_eq_getElem hlt
  generalize l[i]=r at hr
  have cg:=Wp [r.b]
  cases hg:EW [r.b]with
  |true=>
   rw[hg]at cg
   have ha:l.any (fun a=>EW [a.b])=true:=List.any_eq_true.2 ⟨r,List.mem_of_getElem? hr,hg⟩
   repeat'(first|refine An Ac J J J J J ?_|refine Ae Ac J J J ?_|refine Ag ?_|refine Ah ?_|refine Ai Ac J J ?_|(refine Af J (ht:=fun h=>?_) (hf:=fun h=>?_)<;>try exact prn)|refine Al ?_|refine Ao ?_|refine Ar ?_|refine AD Ac J J J J J J J (A2 Aa) J ?_|refine Ak Ac J J J J J J J ((Ct.args cg ⟨Bp,trivial⟩)) J J ?_)
   exact Au J (Sub.of_eq (by rw[show DP l=true by rw[DP,ha];simp]))
  |false=>
   rw[hg]at cg
   repeat'(first|refine An Ac J J J J J ?_|refine Ae Ac J J J ?_|refine Ag ?_|refine Ah ?_|refine Ai Ac J J ?_|(refine Af J (ht:=fun h=>?_) (hf:=fun h=>?_)<;>try exact prn)|refine Al ?_|refine Ao ?_|refine AD Ac J J J J J J J (A2 Aa) J ?_|refine Ak Ac J J J J J J J ((Ct.args cg ⟨Bp,trivial⟩)) J J ?_)
   refine AF (i+1) ⟨hlt,Cd hr hany hg⟩ O [4] (Ad J J (Ad J J (Ad J ?_ Aq))) J
   rw[A0 O O];rfl
 ·repeat'(first|refine Ae Ac J J J ?_|refine Ag ?_|refine Ah ?_|refine Ai Ac J J ?_|(refine Af J (ht:=fun h=>?_) (hf:=fun h=>?_)<;>try exact prn)|refine AB ?_|refine Ar ?_)
  have ha:=CM O hany
  exact Au J (Sub.of_eq (by rw[show DP l=false by rw[DP,ha,decide_eq_false O];rfl]))
end Go.Proofs.YtpdmaenhenfofaaGreatDoor
