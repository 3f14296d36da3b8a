/- Lemmas toward the law; each names its conditions. -/
import Derived.Test.YtppffhlbcgpgdaaGreatDoorYW1
set_option linter.all false
set_option maxRecDepth 100000
set_option maxHeartbeats 8000000
namespace Go.Proofs.YtppffhlbcgpgdaaGreatDoor
open Go.Am
attribute [local irreducible] Decidable.decide Tr A6 CG EJ
def D3 {α:Type} (lt:α->α->Bool):List α->Bool
 |[]=>true
 |[_]=>true
 |a::b::r=>lt a b&&D3 lt (b::r)
theorem Xz: ∀l:List Int,Gk l=D3 (λa b=>decide (a<b)) l
 |[]=>rfl
 |[_]=>rfl
 |a::b::r=>by simp only[Gk,D3,Xz (b::r)]
theorem Xy: ∀l:List Pend,CS l=D3 Nj l
 |[]=>rfl
 |[_]=>rfl
 |a::b::r=>by simp only[CS,D3,Xy (b::r)]
theorem PG {α:Type} (lt:α->α->Bool): ∀(l:List α) (a b:α),D3 lt (l++[a])=true->D3 lt (l++[a,b])=lt a b
 |[],a,b,_=>by simp[D3]
 |[x],a,b,h=>by simp only[A5n,A6w,D3,A78]at h⊢;rw[h];simp
 |x::y::l,a,b,h=>by
  simp only[A5n,D3,Qp]at h⊢;have:=PG lt (y::l) a b (by simpa using h.2);rw[h.1,A5a];simpa using this
theorem RH {α:Type} (lt:α->α->Bool): ∀(l r:List α),D3 lt (l++r)=true->D3 lt l=true
 |[],r,_=>rfl
 |[x],r,_=>rfl
 |x::y::l,r,h=>by
  simp only[A5n,D3,Qp]at h⊢;exact⟨h.1,RH lt (y::l) r (by simpa using h.2)⟩
theorem PF {α:Type} (lt:α->α->Bool) {l:List α} {i:Nat} {a b:α} (ha:l[i]?=some a) (hb:l[i+1]?=some b) (h:D3 lt (l.take (i+1))=true):D3 lt (l.take (i+1+1))=lt a b:=by
 rw[AB hb,AB ha,A33];rw[AB ha]at h;exact PG lt _ a b h
theorem Uu {α:Type} (lt:α->α->Bool) {l:List α} {i:Nat} (h:D3 lt (l.take i)=false):D3 lt l=false:=by
 cases hr:D3 lt l with
 |false=>rfl
 |true=>rw[<-A5j i l]at hr;rw[RH lt _ _ hr]at h;cases h
theorem OU (q:Int):A3z 196 [.t (.int .i64 q)] [] (.t (.bool (CU q))) []:=by
 refine yF Tryz.func196 ?_
 repeat'(first|exact Au|refine yC ?_ ?_|refine⟨λh=>?_⟩|fail)
 all_goals(refine Ah Y (BL ?_);unfold CU;(first|exact bI Aa|exact bT Aa|exact bF Aa))
theorem UN (p:Pend):A3z 132 [.agg (Af (A3 p))] [] (.t (.bool (AZ p))) []:=by
 have c:=OU p.part;unfold CU at c;refine yF Tryz.func132 ?_
 repeat'(first|exact Au|refine yC ?_ ?_|refine⟨λh=>?_⟩|fail)
 all_goals(refine Ah Y (BL ?_);unfold AZ;(try simp only[Uj]at*);(first|exact bI Aa|exact bT Aa|exact bF Aa))
def MW (a b:Int):Int:=if a<b then-1 else if b<a then 1 else 0
theorem Aef {a b:Int} (h:a<b):MW a b= -1:=by simp[MW,h]
theorem Ar1 {a b:Int} (h:b<a):MW a b=1:=by
 have: ¬a<b:=Aa;simp[MW,h,this]
theorem Ar2 {a b:Int} (h: ¬a<b) (h2: ¬b<a):MW a b=0:=by simp[MW,h,h2]
theorem Alp (a:Int):A3z 246 [.t (.int .i64 a)] [] (.t (.bool false)) []:=by
 refine yF Tryz.func246 ?_
 repeat'(first|exact Au|refine yC ?_ ?_|refine⟨λh=>?_⟩|fail)
 all_goals(refine Ah Y (BL ?_);simp)
theorem QX (a b:Int):A3z 198 [.t (.int .i64 a),.t (.int .i64 b)] [] (.t (.int .i64 (MW a b))) []:=by
 refine yF Tryz.func198 ?_
 repeat'(first|exact Au|refine yC ?_ ?_|refine⟨λh=>?_⟩|refine Ab0 ?_ (c:=Alp _)|fail)
 all_goals first
  |(rw[Aef Aa];exact Ah Y (A3m Y))
  |(rw[Ar1 Aa];exact Ah Y (A3m Y))
  |(rw[Ar2 Aa Aa];exact Ah Y (A3m Y))
def Rx (x y:Int):Int:=if x≠0 then x else y
theorem Akm (x y:Int):A3z 199 [.t (.slice .full 1 [[.int .i64 x],[.int .i64 y]])] [] (.t (.int .i64 (Rx x y))) []:=by
 have dO:IntKind.i64.wrap (0+1)=1:=by decide+kernel
 have dD:IntKind.i64.wrap (1+1)=2:=by decide+kernel
 by_cases hx:x=0
 ·have e:Rx x y=y:=by simp[Rx,hx]
  rw[e];by_cases hy:y=0
  ·subst hx hy;refine yF Tryz.func199 ?_
   repeat'(first|exact Au|refine yC ?_ ?_|refine⟨λh=>?_⟩|refine B6 4 ?_|refine BH ?_|simp only[dO,dD]|fail)
   all_goals try(exfalso;simp[IntKind.wrap,IntKind.bits,IntKind.signed]at h;done)
   all_goals first|exact Ah Y (A3m Y)|exact⟨.inr trivial,_,_,Y,A3m Y⟩
  ·subst hx;refine yF Tryz.func199 ?_
   repeat'(first|exact Au|refine yC ?_ ?_|refine⟨λh=>?_⟩|refine B6 4 ?_|refine BH ?_|simp only[dO,dD]|fail)
   all_goals try(exfalso;simp[IntKind.wrap,IntKind.bits,IntKind.signed]at h;done)
   all_goals try(exfalso;omega)
   all_goals first|exact Ah Y (A3m Y)|exact⟨.inr trivial,_,_,Y,A3m Y⟩
 ·have e:Rx x y=x:=by simp[Rx,hx]
  rw[e];refine yF Tryz.func199 ?_
  repeat'(first|exact Au|refine yC ?_ ?_|refine⟨λh=>?_⟩|refine B6 4 ?_|refine BH ?_|simp only[dO,dD]|fail)
  all_goals try(exfalso;simp[IntKind.wrap,IntKind.bits,IntKind.signed]at h;done)
  all_goals try(exfalso;omega)
  all_goals first|exact Ah Y (A3m Y)|exact⟨.inr trivial,_,_,Y,A3m Y⟩
def GU (p q:Pend):Int:=Rx (MW p.sZ q.sZ) (MW p.part q.part)
theorem OG (p q:Pend):(GU p q<0)↔Nj p q=true:=by
 simp only[GU,Rx,MW,Nj,Uj]
 repeat' split
 all_goals omega
theorem Af0 (p q:Pend):(GU p q=0)↔(p.sZ=q.sZ/\p.part=q.part):=by
 simp only[GU,Rx,MW]
 repeat' split
 all_goals omega
theorem MY (p q:Pend):A3z 135 [.agg (Af (A3 p)),.agg (Af (A3 q))] [] (.t (.int .i64 (GU p q))) []:=by
 refine yF Tryz.func135 ?_
 repeat'(first|exact Au|refine yC ?_ ?_|refine⟨λh=>?_⟩|refine B5 1 9 ?_|refine Anx ?_ (c:=QX _ _)|refine Ab0 ?_ (c:=QX _ _)|refine Anx ?_ (c:=Akm _ _)|refine Ab0 ?_ (c:=Akm _ _)|fail)
 all_goals exact Ah Y (A3m Y)
theorem ZW (l:List Int) (hl:l.length<=1000000):A3z 197 [.t (.slice .any 1 (l.map Cy)),.t (.func (.func 198) [] [])] [] (.t (.bool (Gk l))) []:=by
 rw[Xz];have aQ:(l.map Cy).length=l.length:=Ts ..;refine yF Tryz.func197 ?_
 repeat'(first|exact Au|refine yC ?_ ?_|refine⟨λh=>?_⟩|refine B5 4 10 ?_|fail)
 refine AW (ι:=Nat) (λk=>k<=l.length/\D3 (λa b=>decide (a<b)) (l.take (k+1))=true) (λk=>[(0,.t (.slice .any 1 (l.map Cy))),(1,.t (.func (.func 198) [] [])),(5,.t (.int .i64 ((k+1:Nat):Int)))]) (λ_=>[]) (λk=>l.length-k) 0 ⟨Aa,?_⟩ ?_ ?_
 ·cases l with
  |nil=>rfl
  |cons a r=>rfl
 ·exact Bb [] Aa6 Y
 rintro k ⟨hk,hr⟩;by_cases aC:k+1<l.length
 ·have ha:l[k]?=some (l[k]' Aa):=Kv _;have hb:l[k+1]?=some (l[k+1]'aC):=Kv _;generalize l[k]' Aa=a at ha;generalize l[k+1]'aC=b at hb;have hw:IntKind.i64.wrap (((k+1:Nat):Int)-1)=((k:Nat):Int):=by rw[A1 Aa Aa];omega
  have ht:=PF (λa b:Int=>decide (a<b)) ha hb hr;by_cases kR:a<b
  ·have e:=Aef kR;have cc:=QX a b;rw[e]at cc
   repeat'(first|exact Au|refine yC ?_ ?_|refine⟨λh=>?_⟩|refine B5 4 10 ?_|fail)
   all_goals try(exfalso;simp_all;done)
   all_goals try(exfalso;omega)
   all_goals refine AM (k+1) ⟨Aa,by rw[ht];simpa using kR⟩ Aa [] (Ag Y Y (Ag Y Y (Ag Y (by rw[A1 Aa Aa];rfl) A8))) Y
  ·have hf:D3 (λa b:Int=>decide (a<b)) l=false:=Uu _ (i:=k+1+1) (by rw[ht];simpa using kR);rw[hf];have cc:A3z 198 [.t (.int .i64 a),.t (.int .i64 b)] [] (.t (.int .i64 (MW a b))) []:=QX a b;have e:0<=MW a b:=by simp only[MW];repeat' split;all_goals omega
   generalize MW a b=z at cc e
   repeat'(first|exact Au|refine yC ?_ ?_|refine⟨λh=>?_⟩|refine B5 4 10 ?_|fail)
   all_goals try(exfalso;omega)
   all_goals exact Ah Y (A3m Y)
 ·have aI:l.take (k+1)=l:=QQ Aa;rw[aI]at hr;rw[hr]
  repeat'(first|exact Au|refine yC ?_ ?_|refine⟨λh=>?_⟩|refine B5 4 10 ?_|fail)
  all_goals try(exfalso;omega)
  all_goals exact Ah Y (A3m Y)
theorem UX (a b:List Int) (ha:a.length<=1000000000):A3z 63 [.t (.slice .any 1 (a.map Cy)),.t (.slice .any 1 (b.map Cy))] [] (.t (.bool (decide (a=b)))) []:=by
 refine yF Tryz.func63 ?_;have oD:(a.map Cy).length=a.length:=Ts ..;have f8:(b.map Cy).length=b.length:=Ts ..
 repeat'(first|exact Au|refine yC ?_ ?_|refine⟨λh=>?_⟩|refine B5 6 8 ?_|fail)
 ·exact Ah Y (BL (bF λe=>by subst e;exact h Y))
 have hl:a.length=b.length:=Aa;refine AW (ι:=Nat) (λi=>i<=a.length/\a.take i=b.take i) (λi=>[(0,.t (.slice .any 1 (a.map Cy))),(1,.t (.slice .any 1 (b.map Cy))),(12,.t (.int .i64 ((a.map Cy).length:Int))),(13,.t (.int .i64 i))]) (λ_=>[]) (λi=>a.length-i) 0 Ac ?_ ?_
 ·exact Bb [] Aa6 Y
 rintro i ⟨hi,dR⟩;by_cases aC:i<a.length
 ·have hr:a[i]?=some a[i]:=Kv aC;have hs:b[i]?=some (b[i]' Aa):=Kv _;generalize a[i]=r at hr;generalize b[i]' Aa=s at hs
  repeat'(first|exact Au|refine yC ?_ ?_|refine⟨λh=>?_⟩|refine B5 6 8 ?_|fail)
  ·exact Ah Y (BL (bF (λe=>by subst e;rw[hr]at hs;cases hs;omega)))
  ·have e:r=s:=Aa;refine AM (i+1) ⟨aC,Nw hr hs dR e⟩ Aa [] (Ag Y Y (Ag Y Y (Ag Y Y (Ag Y ?_ A8)))) Y;rw[A1 Aa Aa];rfl
 ·repeat'(first|exact Au|refine yC ?_ ?_|refine⟨λh=>?_⟩|refine B5 6 8 ?_|fail)
  exact Ah Y (BL (bT (QF hl Aa dR)))
theorem Ws (a b:List Pend) (ha:a.length<=1000000000):A3z 131 [.t (.slice .any 3 (a.map A3)),.t (.slice .any 3 (b.map A3))] [] (.t (.bool (decide (a=b)))) []:=by
 refine yF Tryz.func131 ?_;have oD:(a.map A3).length=a.length:=Ts ..;have f8:(b.map A3).length=b.length:=Ts ..
 repeat'(first|exact Au|refine yC ?_ ?_|refine⟨λh=>?_⟩|refine B5 6 8 ?_|fail)
 ·exact Ah Y (BL (bF λe=>by subst e;exact h Y))
 have hl:a.length=b.length:=Aa;refine AW (ι:=Nat) (λi=>i<=a.length/\a.take i=b.take i) (λi=>[(0,.t (.slice .any 3 (a.map A3))),(1,.t (.slice .any 3 (b.map A3))),(12,.t (.int .i64 ((a.map A3).length:Int))),(13,.t (.int .i64 i))]) (λ_=>[]) (λi=>a.length-i) 0 Ac ?_ ?_
 ·exact Bb [] Aa6 Y
 rintro i ⟨hi,dR⟩;by_cases aC:i<a.length
 ·have hr:a[i]?=some a[i]:=Kv aC;have hs:b[i]?=some (b[i]' Aa):=Kv _;generalize a[i]=r at hr;generalize b[i]' Aa=s at hs
  repeat'(first|exact Au|refine yC ?_ ?_|refine⟨λh=>?_⟩|refine B5 6 8 ?_|fail)
  ·exact Ah Y (BL (bF (λe=>by subst e;rw[hr]at hs;cases hs;simp at h)))
  ·have e:r=s:=by cases r;cases s;simp at h;simp[h]
   refine AM (i+1) ⟨aC,Nw hr hs dR e⟩ Aa [] (Ag Y Y (Ag Y Y (Ag Y Y (Ag Y ?_ A8)))) Y;rw[A1 Aa Aa];rfl
 ·repeat'(first|exact Au|refine yC ?_ ?_|refine⟨λh=>?_⟩|refine B5 6 8 ?_|fail)
  exact Ah Y (BL (bT (QF hl Aa dR)))
theorem ZV (l:List Pend) (hl:l.length<=1000000):A3z 134 [.t (.slice .any 3 (l.map A3)),.t (.func (.func 135) [] [])] [] (.t (.bool (CS l))) []:=by
 rw[Xy];have aQ:(l.map A3).length=l.length:=Ts ..;refine yF Tryz.func134 ?_
 repeat'(first|exact Au|refine yC ?_ ?_|refine⟨λh=>?_⟩|refine B5 4 10 ?_|fail)
 refine AW (ι:=Nat) (λk=>k<=l.length/\D3 Nj (l.take (k+1))=true) (λk=>[(0,.t (.slice .any 3 (l.map A3))),(1,.t (.func (.func 135) [] [])),(5,.t (.int .i64 ((k+1:Nat):Int)))]) (λ_=>[]) (λk=>l.length-k) 0 ⟨Aa,?_⟩ ?_ ?_
 ·cases l with
  |nil=>rfl
  |cons a r=>rfl
 ·exact Bb [] Aa6 Y
 rintro k ⟨hk,hr⟩;by_cases aC:k+1<l.length
 ·have ha:l[k]?=some (l[k]' Aa):=Kv _;have hb:l[k+1]?=some (l[k+1]'aC):=Kv _;generalize l[k]' Aa=a at ha;generalize l[k+1]'aC=b at hb;have hw:IntKind.i64.wrap (((k+1:Nat):Int)-1)=((k:Nat):Int):=by rw[A1 Aa Aa];omega
  have ht:=PF Nj ha hb hr;by_cases kR:Nj a b=true
  ·have e:=(OG a b).2 kR;have cc:=MY a b;generalize GU a b=z at cc e
   repeat'(first|exact Au|refine yC ?_ ?_|refine⟨λh=>?_⟩|refine B5 4 10 ?_|fail)
   all_goals try(exfalso;simp_all;done)
   all_goals try(exfalso;omega)
   all_goals refine AM (k+1) ⟨Aa,by rw[ht];exact kR⟩ Aa [] (Ag Y Y (Ag Y Y (Ag Y (by rw[A1 Aa Aa];rfl) A8))) Y
  ·have hf:D3 Nj l=false:=Uu _ (i:=k+1+1) (by rw[ht];simpa using kR);rw[hf];have cc:=MY a b;have e: ¬GU a b<0:=λx=>kR ((OG a b).1 x);generalize GU a b=z at cc e
   repeat'(first|exact Au|refine yC ?_ ?_|refine⟨λh=>?_⟩|refine B5 4 10 ?_|fail)
   all_goals try(exfalso;omega)
   all_goals exact Ah Y (A3m Y)
 ·have aI:l.take (k+1)=l:=QQ Aa;rw[aI]at hr;rw[hr]
  repeat'(first|exact Au|refine yC ?_ ?_|refine⟨λh=>?_⟩|refine B5 4 10 ?_|fail)
  all_goals try(exfalso;omega)
  all_goals exact Ah Y (A3m Y)
theorem N8: ∀(l:List Int),Gk l=true->l.Pairwise (· < ·)
 |[],_=>.nil
 |[a],_=>Ac
 |a::b::r,h=>by
  simp only[Gk,Qp,Uj]at h;have ih:=N8 (b::r) h.2;refine A2x.2 ⟨λx hx=>?_,ih⟩;rcases Als.1 hx with e|e
  ·subst e;exact h.1
  ·exact Int.lt_trans h.1 ((A2x.1 ih).1 x e)
theorem Aay {l:List Int} {a z:Int} (hr:Gk l=true) (ha:l[0]?=some a) (hz:l[l.length-1]?=some z):l.all CU=(CU a&&CU z):=by
 have hp:=A52.1 (N8 l hr);obtain⟨h0,tR⟩:=ZH.1 ha;obtain⟨h1,hz'⟩:=ZH.1 hz
 cases hc:(CU a&&CU z)with
 |true=>
  simp only[Qp,CU,Uj]at hc;refine A21.2 λx hx=>?_;obtain⟨i,hi,rfl⟩:=A8m.1 hx
  have b1:a<=l[i]:=by
   rcases A8t i with e|e
   ·subst e;omega
   ·have:=hp 0 i h0 hi e;omega
  have b2:l[i]<=z:=by
   rcases A4i i (l.length-1)with e|e
   ·have:=hp i (l.length-1) hi h1 e;omega
   ·have:i=l.length-1:=Aa;subst this;omega
  simp only[CU,Uj];omega
 |false=>
  cases hl:l.all CU with
  |false=>rfl
  |true=>
   have m1:=A21.1 hl a (tR▸Agz h0);have m2:=A21.1 hl z (hz'▸Agz h1);rw[m1,m2]at hc;cases hc
theorem Q0 (l:List Int) (hl:l.length<=1000000):A3z 133 [.t (.slice .any 1 (l.map Cy))] [] (.t (.bool (CD l))) []:=by
 have cr:=ZW l hl;have aQ:(l.map Cy).length=l.length:=Ts ..
 cases hr:Gk l with
 |false=>
  rw[hr]at cr;have e:CD l=false:=by simp[CD,hr]
  rw[e];refine yF Tryz.func133 ?_
  repeat'(first|exact Au|refine yC ?_ ?_|refine⟨λh=>?_⟩|fail)
  all_goals first|exact Ah Y (A3m Y)|exact Ah Y (BL Ac)
 |true=>
  rw[hr]at cr;by_cases h0:l=[]
  ·subst h0;refine yF Tryz.func133 ?_
   repeat'(first|exact Au|refine yC ?_ ?_|refine⟨λh=>?_⟩|fail)
   all_goals try(exfalso;simp_all;done)
   all_goals first|exact Ah Y (A3m Y)|exact Ah Y (BL (by simp[CD,Gk]))
  ·have dH:0<l.length:=A54.2 h0;have ha:l[0]?=some (l[0]'dH):=Kv _;have hz:l[l.length-1]?=some (l[l.length-1]' Aa):=Kv _;generalize l[0]'dH=a at ha;generalize l[l.length-1]' Aa=z at hz;have e:CD l=(CU a&&CU z):=by rw[CD,hr,Aay hr ha hz,A5a]
   rw[e];have ca:=OU a;have cz:=OU z;generalize CU a=A at ca⊢;generalize CU z=Z at cz⊢;have hw:IntKind.i64.wrap (((l.map Cy).length:Int)-1)=((l.length-1:Nat):Int):=by rw[A1 Aa Aa];omega
   refine yF Tryz.func133 ?_
   repeat'(first|exact Au|refine yC ?_ ?_|refine⟨λh=>?_⟩|fail)
   all_goals try(exfalso;omega)
   all_goals first|exact Ah Y (A3m Y)|(refine Ah Y (BL ?_);simp_all;done)
def X2 (c:Coord):Bool:=decide ((1<=c.lO/\c.lO<=8)/\(0<=c.lT/\c.lT<=100)/\(1<=c.mZ/\c.mZ<=20)/\(0<=c.vZ/\c.vZ<=1048576))
structure SmallC (c:Coord):Prop where
 parts:c.parts.length<=1000000
 rH:c.rH.length<=1000000
theorem Abn (c:Coord) (hc:SmallC c):A3z 94 [.agg (Af (AN c))] [] (.t (.bool (DJ c))) []:=by
 have h1:=hc.rH;have aQ:(c.rH.map A3).length=c.rH.length:=Ts ..;have ca:=Q0 c.parts hc.parts;have cp:=ZV c.rH hc.rH;have e0:DJ c=(c.rH.all AZ&&(X2 c&&(CD c.parts&&CS c.rH))):=rfl;rw[e0];generalize CD c.parts=A at ca⊢;generalize CS c.rH=R at cp⊢;refine yF Tryz.func94 ?_
 repeat'(first|exact Au|refine yC ?_ ?_|refine⟨λh=>?_⟩|fail)
 refine AW (ι:=Nat) (λi=>i<=c.rH.length/\(c.rH.take i).all AZ=true) (λi=>[(1,.ref 2 0),(6,.t (.slice .any 3 (c.rH.map A3))),(7,.t (.int .i64 ((c.rH.map A3).length:Int))),(8,.t (.int .i64 i))]) (λ_=>[(2,.cells (Af (AN c)))]) (λi=>c.rH.length-i) 0 Ac ?_ ?_
 ·exact Bb [] Aa6 Y
 rintro i ⟨hi,aI⟩;by_cases aC:i<c.rH.length
 ·have hr:c.rH[i]?=some c.rH[i]:=Kv aC;generalize c.rH[i]=p at hr;have ci:=UN p
  cases hp:AZ p with
  |true=>
   rw[hp]at ci
   repeat'(first|exact Au|refine yC ?_ ?_|refine⟨λh=>?_⟩|fail)
   all_goals refine AM (i+1) ⟨aC,by rw[AB hr,A8i,aI];simp[hp]⟩ Aa [4] (Ag Y Y (Ag Y Y (Ag Y Y (Ag Y (by rw[A1 Aa Aa];rfl) A8)))) Y
  |false=>
   rw[hp]at ci
   have cH:c.rH.all AZ=false:=by
    cases hq:c.rH.all AZ with
    |false=>rfl
    |true=>rw[A21.1 hq p (Apj hr)]at hp;cases hp
   rw[cH]
   repeat'(first|exact Au|refine yC ?_ ?_|refine⟨λh=>?_⟩|fail)
   all_goals exact Ah Y (A3m Y)
 ·rw[QQ Aa]at aI;rw[aI,A5a]
  repeat'(first|exact Au|refine yC ?_ ?_|refine⟨λh=>?_⟩|fail)
  all_goals try(exfalso;omega)
  all_goals first
   |(have e:X2 c=true:=by(simp only[X2,Uj];omega)
     rw[e,A5a]
     refine Ah Y (BL ?_);simp_all;done)
   |(have e:X2 c=false:=by(simp only[X2,A7h];omega)
     rw[e,Bool.false_and]
     refine Ah Y (BL ?_);simp_all;done)
theorem Ud (a b:Coord) (ha:SmallC a):A3z 93 [.agg (Af (AN a)),.agg (Af (AN b))] [] (.t (.bool (decide (a=b)))) []:=by
 have ci:=UX a.parts b.parts (by have:=ha.parts;omega);have cp:=Ws a.rH b.rH (by have:=ha.rH;omega);refine yF Tryz.func93 ?_
 repeat'(first|exact Au|refine yC ?_ ?_|refine⟨λh=>?_⟩|fail)
 all_goals
  rcases a with⟨a1,a2,a3,a4,a5,a6,a7,a8⟩
  rcases b with⟨b1,b2,b3,b4,b5,b6,b7,b8⟩
  refine Ah Y (BL ?_)
  simp_all
