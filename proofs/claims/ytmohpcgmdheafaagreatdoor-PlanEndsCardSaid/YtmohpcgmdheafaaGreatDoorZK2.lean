/- Contracts and laws, joined: Xc, Xd. No condition beside those that each theorem names. -/
import Derived.Test.YtmohpcgmdheafaaGreatDoorZW1
set_option linter.unusedVariables false
set_option linter.unusedSimpArgs false
set_option maxRecDepth 100000
set_option maxHeartbeats 8000000
namespace Go.Proofs.YtmohpcgmdheafaaGreatDoor
open Go.Am
attribute [local irreducible] Decidable.decide Tr A2 hSK hSW
def CD {α:Type} (lt:α->α->Bool):List α->Bool
 |[]=>true
 |[_]=>true
 |a::b::r=>lt a b&&CD lt (b::r)
theorem Wm: ∀l:List Int,DX l=CD (fun a b=>decide (a<b)) l
 |[]=>rfl
 |[_]=>rfl
 |a::b::r=>by simp only[DX,CD,Wm (b::r)]
theorem MF: ∀l:List Pend,Hd l=CD ltP l
 |[]=>rfl
 |[_]=>rfl
 |a::b::r=>by simp only[Hd,CD,MF (b::r)]
theorem ON {α:Type} (lt:α->α->Bool): ∀(l:List α) (a b:α),CD lt (l++[a])=true->CD lt (l++[a,b])=lt a b
 |[],a,b,_=>by simp[CD]
 |[x],a,b,h=>by simp only[List.cons_append,List.nil_append,CD,Bool.and_true]at h⊢;rw[h];simp
 |x::y::l,a,b,h=>by
  simp only[List.cons_append,CD,Bool.and_eq_true]at h⊢
  have:=ON lt (y::l) a b (by simpa using h.2)
  rw[h.1,Bool.true_and];simpa using this
theorem QS {α:Type} (lt:α->α->Bool): ∀(l r:List α),CD lt (l++r)=true->CD lt l=true
 |[],r,_=>rfl
 |[x],r,_=>rfl
 |x::y::l,r,h=>by
  simp only[List.cons_append,CD,Bool.and_eq_true]at h⊢
  exact⟨h.1,QS lt (y::l) r (by simpa using h.2)⟩
theorem JX {α:Type} (lt:α->α->Bool) {l:List α} {i:Nat} {a b:α} (ha:l[i]?=some a) (hb:l[i+1]?=some b) (h:CD lt (l.take (i+1))=true):CD lt (l.take (i+1+1))=lt a b:=by
 rw[A5 hb,A5 ha,List.append_assoc]
 rw[A5 ha]at h
 exact ON lt _ a b h
theorem NU {α:Type} (lt:α->α->Bool) {l:List α} {i:Nat} (h:CD lt (l.take i)=false):CD lt l=false:=by
 cases hr:CD lt l with
 |false=>rfl
 |true=>rw[<-List.take_append_drop i l]at hr;rw[QS lt _ _ hr]at h;cases h
theorem Ov (q:Int):A17 264 [.t (.int .i64 q)] [] (.t (.bool (CJ q))) []:=by
 refine ct0 Ag Tryz.func264 Y false Y Y ?_
 repeat'(first|exact prB|refine stC ?_|refine stU (fun h=>?_) fun h=>?_|refine stN (fun b hb=>?_)|fail)
 all_goals(refine Ai Y (AP ?_);unfold CJ;(first|exact bI Aa|exact bT Aa|exact bF Aa))
theorem Ad4 (p:Pend):A17 192 [.agg (Ah (AB p))] [] (.t (.bool (Cc p))) []:=by
 have c:=Ov p.part
 unfold CJ at c
 refine ct0 Ag Tryz.func192 Y false Y Y ?_
 repeat'(first|exact prB|refine stC ?_|refine stU (fun h=>?_) fun h=>?_|refine stN (fun b hb=>?_)|refine stL ?_ (c:=c)|fail)
 all_goals(refine Ai Y (AP ?_);unfold Cc;(try simp only[decide_eq_true_eq]at*);(first|exact bI Aa|exact bT Aa|exact bF Aa))
def N8 (a b:Int):Int:=if a<b then-1 else if b<a then 1 else 0
theorem Abw {a b:Int} (h:a<b):N8 a b= -1:=by simp[N8,h]
theorem Am0 {a b:Int} (h:b<a):N8 a b=1:=by
 have: ¬a<b:=by omega
 simp[N8,h,this]
theorem Ana {a b:Int} (h: ¬a<b) (h2: ¬b<a):N8 a b=0:=by simp[N8,h,h2]
theorem Ah8 (a:Int):A17 323 [.t (.int .i64 a)] [] (.t (.bool false)) []:=by
 refine ct0 Ag Tryz.func323 Y false Y Y ?_
 repeat'(first|exact prB|refine stC ?_|refine stU (fun h=>?_) fun h=>?_|refine stN (fun b hb=>?_)|fail)
 all_goals(refine Ai Y (AP ?_);simp)
theorem PZ (a b:Int):A17 266 [.t (.int .i64 a),.t (.int .i64 b)] [] (.t (.int .i64 (N8 a b))) []:=by
 refine ct0 Ag Tryz.func266 Y false Y Y ?_
 repeat'(first|exact prB|refine stC ?_|refine stU (fun h=>?_) fun h=>?_|refine stN (fun b hb=>?_)|refine stL ?_ (c:=Ah8 _)|fail)
 all_goals first
  |(rw[Abw Aa];exact Ai Y (A1y Y))
  |(rw[Am0 Aa];exact Ai Y (A1y Y))
  |(rw[Ana Aa Aa];exact Ai Y (A1y Y))
def orI (x y:Int):Int:=if x≠0 then x else y
theorem Ahb (x y:Int):A17 267 [.t (.slice .full 1 [[.int .i64 x],[.int .i64 y]])] [] (.t (.int .i64 (orI x y))) []:=by
 have hw0:IntKind.i64.wrap (0+1)=1:=by decide+kernel
 have hw1:IntKind.i64.wrap (1+1)=2:=by decide+kernel
 by_cases hx:x=0
 ·have e:orI x y=y:=by simp[orI,hx]
  rw[e]
  by_cases hy:y=0
  ·subst hx hy
   refine ct0 Ag Tryz.func267 Y false Y Y ?_
   repeat'(first|exact prB|refine stC ?_|refine stU (fun h=>?_) fun h=>?_|refine stN (fun b hb=>?_)|refine AN 4 ?_|refine AQ ?_|simp only[hw0,hw1]|fail)
   all_goals try(exfalso;simp[IntKind.wrap,IntKind.bits,IntKind.signed]at h;done)
   all_goals first|exact Ai Y (A1y Y)|exact⟨.inr trivial,_,_,Y,A1y Y⟩
  ·subst hx
   refine ct0 Ag Tryz.func267 Y false Y Y ?_
   repeat'(first|exact prB|refine stC ?_|refine stU (fun h=>?_) fun h=>?_|refine stN (fun b hb=>?_)|refine AN 4 ?_|refine AQ ?_|simp only[hw0,hw1]|fail)
   all_goals try(exfalso;simp[IntKind.wrap,IntKind.bits,IntKind.signed]at h;done)
   all_goals try(exfalso;omega)
   all_goals first|exact Ai Y (A1y Y)|exact⟨.inr trivial,_,_,Y,A1y Y⟩
 ·have e:orI x y=x:=by simp[orI,hx]
  rw[e]
  refine ct0 Ag Tryz.func267 Y false Y Y ?_
  repeat'(first|exact prB|refine stC ?_|refine stU (fun h=>?_) fun h=>?_|refine stN (fun b hb=>?_)|refine AN 4 ?_|refine AQ ?_|simp only[hw0,hw1]|fail)
  all_goals try(exfalso;simp[IntKind.wrap,IntKind.bits,IntKind.signed]at h;done)
  all_goals try(exfalso;omega)
  all_goals first|exact Ai Y (A1y Y)|exact⟨.inr trivial,_,_,Y,A1y Y⟩
def KR (p q:Pend):Int:=orI (N8 p.group q.group) (N8 p.part q.part)
theorem Tv (p q:Pend):(KR p q<0)↔ltP p q=true:=by
 simp only[KR,orI,N8,ltP,decide_eq_true_eq]
 repeat' split
 all_goals omega
theorem Sr (p q:Pend):A17 195 [.agg (Ah (AB p)),.agg (Ah (AB q))] [] (.t (.int .i64 (KR p q))) []:=by
 refine ct0 Ag Tryz.func195 Y false Y Y ?_
 repeat'(first|exact prB|refine stC ?_|refine stU (fun h=>?_) fun h=>?_|refine stN (fun b hb=>?_)|refine stD 1 9 ?_|refine stM ?_ (c:=PZ _ _)|refine stL ?_ (c:=PZ _ _)|refine stM ?_ (c:=Ahb _ _)|refine stL ?_ (c:=Ahb _ _)|fail)
 all_goals exact Ai Y (A1y Y)
theorem YC (l:List Int) (hl:l.length<=1000000):A17 265 [.t (.slice .any 1 (l.map Bz)),.t (.func (.func 266) [] [])] [] (.t (.bool (DX l))) []:=by
 rw[Wm]
 have hlm:(l.map Bz).length=l.length:=List.length_map ..
 refine ct0 Ag Tryz.func265 Y false Y Y ?_
 repeat'(first|exact prB|refine stC ?_|refine stU (fun h=>?_) fun h=>?_|refine stN (fun b hb=>?_)|refine stD 4 10 ?_|fail)
 refine A3 (ι:=Nat) (fun k=>k<=l.length/\CD (fun a b=>decide (a<b)) (l.take (k+1))=true) (fun k=>[(0,.t (.slice .any 1 (l.map Bz))),(1,.t (.func (.func 266) [] [])),(5,.t (.int .i64 ((k+1:Nat):Int)))]) (fun _=>[]) (fun k=>l.length-k) 0 ⟨by omega,?_⟩ ?_ ?_
 ·cases l with
  |nil=>rfl
  |cons a r=>rfl
 ·exact AE [] (Af Y Y (Af Y Y (Af Y Y Aj))) Y
 rintro k ⟨hk,hr⟩
 by_cases hlt:k+1<l.length
 ·have ha:l[k]?=some (l[k]' Aa):=List.getElem?_eq_getElem _
  have hb:l[k+1]?=some (l[k+1]'hlt):=List.getElem?_eq_getElem _
  generalize l[k]' Aa=a at ha
  generalize l[k+1]'hlt=b at hb
  have hw:IntKind.i64.wrap (((k+1:Nat):Int)-1)=((k:Nat):Int):=by rw[An Aa Aa];omega
  have ht:=JX (fun a b:Int=>decide (a<b)) ha hb hr
  by_cases hab:a<b
  ·have e:=Abw hab
   have cc:=PZ a b
   rw[e]at cc
   repeat'(first|exact prB|refine stC ?_|refine stU (fun h=>?_) fun h=>?_|refine stN (fun b hb=>?_)|refine stD 4 10 ?_|refine stM ?_ (c:=cc)|refine stL ?_ (c:=cc)|fail)
   all_goals try(exfalso;simp_all;done)
   all_goals try(exfalso;omega)
   all_goals refine Ay (k+1) ⟨by omega,by rw[ht];simpa using hab⟩ Aa [] (Af Y Y (Af Y Y (Af Y (by rw[An Aa Aa];rfl) Aj))) Y
  ·have hf:CD (fun a b:Int=>decide (a<b)) l=false:=NU _ (i:=k+1+1) (by rw[ht];simpa using hab)
   rw[hf]
   have cc:A17 266 [.t (.int .i64 a),.t (.int .i64 b)] [] (.t (.int .i64 (N8 a b))) []:=PZ a b
   have e:0<=N8 a b:=by simp only[N8];repeat' split;all_goals omega
   generalize N8 a b=z at cc e
   repeat'(first|exact prB|refine stC ?_|refine stU (fun h=>?_) fun h=>?_|refine stN (fun b hb=>?_)|refine stD 4 10 ?_|refine stM ?_ (c:=cc)|refine stL ?_ (c:=cc)|fail)
   all_goals try(exfalso;omega)
   all_goals exact Ai Y (A1y Y)
 ·have hall:l.take (k+1)=l:=List.take_of_length_le Aa
  rw[hall]at hr
  rw[hr]
  repeat'(first|exact prB|refine stC ?_|refine stU (fun h=>?_) fun h=>?_|refine stN (fun b hb=>?_)|refine stD 4 10 ?_|fail)
  all_goals try(exfalso;omega)
  all_goals exact Ai Y (A1y Y)
theorem TR (a b:List Int) (ha:a.length<=1000000000):A17 66 [.t (.slice .any 1 (a.map Bz)),.t (.slice .any 1 (b.map Bz))] [] (.t (.bool (decide (a=b)))) []:=by
 refine ct0 Ag Tryz.func66 Y false Y Y ?_
 have hla:(a.map Bz).length=a.length:=List.length_map ..
 have hlb:(b.map Bz).length=b.length:=List.length_map ..
 repeat'(first|exact prB|refine stC ?_|refine stU (fun h=>?_) fun h=>?_|refine stN (fun b hb=>?_)|refine stD 6 8 ?_|fail)
 ·exact Ai Y (AP (bF fun e=>by subst e;exact h Y))
 have hl:a.length=b.length:=by omega
 refine A3 (ι:=Nat) (fun i=>i<=a.length/\a.take i=b.take i) (fun i=>[(0,.t (.slice .any 1 (a.map Bz))),(1,.t (.slice .any 1 (b.map Bz))),(12,.t (.int .i64 ((a.map Bz).length:Int))),(13,.t (.int .i64 i))]) (fun _=>[]) (fun i=>a.length-i) 0 Ac ?_ ?_
 ·exact AE [] (Af Y Y (Af Y Y (Af Y Y (Af Y Y Aj)))) Y
 rintro i ⟨hi,htk⟩
 by_cases hlt:i<a.length
 ·have hr:a[i]?=some a[i]:=List.getElem?_eq_getElem hlt
  have hs:b[i]?=some (b[i]' Aa):=List.getElem?_eq_getElem _
  generalize a[i]=r at hr
  generalize b[i]' Aa=s at hs
  repeat'(first|exact prB|refine stC ?_|refine stU (fun h=>?_) fun h=>?_|refine stN (fun b hb=>?_)|refine stD 6 8 ?_|fail)
  ·exact Ai Y (AP (bF (fun e=>by subst e;rw[hr]at hs;cases hs;omega)))
  ·have e:r=s:=by omega
   refine Ay (i+1) ⟨hlt,DV hr hs htk e⟩ Aa [] (Af Y Y (Af Y Y (Af Y Y (Af Y ?_ Aj)))) Y
   rw[An Aa Aa];rfl
 ·repeat'(first|exact prB|refine stC ?_|refine stU (fun h=>?_) fun h=>?_|refine stN (fun b hb=>?_)|refine stD 6 8 ?_|fail)
  exact Ai Y (AP (bT (Fg hl Aa htk)))
theorem Vs (a b:List Pend) (ha:a.length<=1000000000):A17 191 [.t (.slice .any 3 (a.map AB)),.t (.slice .any 3 (b.map AB))] [] (.t (.bool (decide (a=b)))) []:=by
 refine ct0 Ag Tryz.func191 Y false Y Y ?_
 have hla:(a.map AB).length=a.length:=List.length_map ..
 have hlb:(b.map AB).length=b.length:=List.length_map ..
 repeat'(first|exact prB|refine stC ?_|refine stU (fun h=>?_) fun h=>?_|refine stN (fun b hb=>?_)|refine stD 6 8 ?_|fail)
 ·exact Ai Y (AP (bF fun e=>by subst e;exact h Y))
 have hl:a.length=b.length:=by omega
 refine A3 (ι:=Nat) (fun i=>i<=a.length/\a.take i=b.take i) (fun i=>[(0,.t (.slice .any 3 (a.map AB))),(1,.t (.slice .any 3 (b.map AB))),(12,.t (.int .i64 ((a.map AB).length:Int))),(13,.t (.int .i64 i))]) (fun _=>[]) (fun i=>a.length-i) 0 Ac ?_ ?_
 ·exact AE [] (Af Y Y (Af Y Y (Af Y Y (Af Y Y Aj)))) Y
 rintro i ⟨hi,htk⟩
 by_cases hlt:i<a.length
 ·have hr:a[i]?=some a[i]:=List.getElem?_eq_getElem hlt
  have hs:b[i]?=some (b[i]' Aa):=List.getElem?_eq_getElem _
  generalize a[i]=r at hr
  generalize b[i]' Aa=s at hs
  repeat'(first|exact prB|refine stC ?_|refine stU (fun h=>?_) fun h=>?_|refine stN (fun b hb=>?_)|refine stD 6 8 ?_|fail)
  ·exact Ai Y (AP (bF (fun e=>by subst e;rw[hr]at hs;cases hs;simp at h)))
  ·have e:r=s:=by cases r;cases s;simp at h;simp[h]
   refine Ay (i+1) ⟨hlt,DV hr hs htk e⟩ Aa [] (Af Y Y (Af Y Y (Af Y Y (Af Y ?_ Aj)))) Y
   rw[An Aa Aa];rfl
 ·repeat'(first|exact prB|refine stC ?_|refine stU (fun h=>?_) fun h=>?_|refine stN (fun b hb=>?_)|refine stD 6 8 ?_|fail)
  exact Ai Y (AP (bT (Fg hl Aa htk)))
theorem YB (l:List Pend) (hl:l.length<=1000000):A17 194 [.t (.slice .any 3 (l.map AB)),.t (.func (.func 195) [] [])] [] (.t (.bool (Hd l))) []:=by
 rw[MF]
 have hlm:(l.map AB).length=l.length:=List.length_map ..
 refine ct0 Ag Tryz.func194 Y false Y Y ?_
 repeat'(first|exact prB|refine stC ?_|refine stU (fun h=>?_) fun h=>?_|refine stN (fun b hb=>?_)|refine stD 4 10 ?_|fail)
 refine A3 (ι:=Nat) (fun k=>k<=l.length/\CD ltP (l.take (k+1))=true) (fun k=>[(0,.t (.slice .any 3 (l.map AB))),(1,.t (.func (.func 195) [] [])),(5,.t (.int .i64 ((k+1:Nat):Int)))]) (fun _=>[]) (fun k=>l.length-k) 0 ⟨by omega,?_⟩ ?_ ?_
 ·cases l with
  |nil=>rfl
  |cons a r=>rfl
 ·exact AE [] (Af Y Y (Af Y Y (Af Y Y Aj))) Y
 rintro k ⟨hk,hr⟩
 by_cases hlt:k+1<l.length
 ·have ha:l[k]?=some (l[k]' Aa):=List.getElem?_eq_getElem _
  have hb:l[k+1]?=some (l[k+1]'hlt):=List.getElem?_eq_getElem _
  generalize l[k]' Aa=a at ha
  generalize l[k+1]'hlt=b at hb
  have hw:IntKind.i64.wrap (((k+1:Nat):Int)-1)=((k:Nat):Int):=by rw[An Aa Aa];omega
  have ht:=JX ltP ha hb hr
  by_cases hab:ltP a b=true
  ·have e:=(Tv a b).2 hab
   have cc:=Sr a b
   generalize KR a b=z at cc e
   repeat'(first|exact prB|refine stC ?_|refine stU (fun h=>?_) fun h=>?_|refine stN (fun b hb=>?_)|refine stD 4 10 ?_|refine stM ?_ (c:=cc)|refine stL ?_ (c:=cc)|fail)
   all_goals try(exfalso;simp_all;done)
   all_goals try(exfalso;omega)
   all_goals refine Ay (k+1) ⟨by omega,by rw[ht];exact hab⟩ Aa [] (Af Y Y (Af Y Y (Af Y (by rw[An Aa Aa];rfl) Aj))) Y
  ·have hf:CD ltP l=false:=NU _ (i:=k+1+1) (by rw[ht];simpa using hab)
   rw[hf]
   have cc:=Sr a b
   have e: ¬KR a b<0:=fun x=>hab ((Tv a b).1 x)
   generalize KR a b=z at cc e
   repeat'(first|exact prB|refine stC ?_|refine stU (fun h=>?_) fun h=>?_|refine stN (fun b hb=>?_)|refine stD 4 10 ?_|refine stM ?_ (c:=cc)|refine stL ?_ (c:=cc)|fail)
   all_goals try(exfalso;omega)
   all_goals exact Ai Y (A1y Y)
 ·have hall:l.take (k+1)=l:=List.take_of_length_le Aa
  rw[hall]at hr
  rw[hr]
  repeat'(first|exact prB|refine stC ?_|refine stU (fun h=>?_) fun h=>?_|refine stN (fun b hb=>?_)|refine stD 4 10 ?_|fail)
  all_goals try(exfalso;omega)
  all_goals exact Ai Y (A1y Y)
theorem QR: ∀(l:List Int),DX l=true->l.Pairwise (· < ·)
 |[],_=>.nil
 |[a],_=>by simp
 |a::b::r,h=>by
  simp only[DX,Bool.and_eq_true,decide_eq_true_eq]at h
  have ih:=QR (b::r) h.2
  refine List.pairwise_cons.2 ⟨fun x hx=>?_,ih⟩
  rcases List.mem_cons.1 hx with e|e
  ·subst e;exact h.1
  ·exact Int.lt_trans h.1 ((List.pairwise_cons.1 ih).1 x e)
theorem YY {l:List Int} {a z:Int} (hr:DX l=true) (ha:l[0]?=some a) (hz:l[l.length-1]?=some z):l.all CJ=(CJ a&&CJ z):=by
 have hp:=List.pairwise_iff_getElem.1 (QR l hr)
 obtain⟨h0,ha'⟩:=List.getElem?_eq_some_iff.1 ha
 obtain⟨h1,hz'⟩:=List.getElem?_eq_some_iff.1 hz
 cases hc:(CJ a&&CJ z)with
 |true=>
  simp only[Bool.and_eq_true,CJ,decide_eq_true_eq]at hc
  refine List.all_eq_true.2 fun x hx=>?_
  obtain⟨i,hi,rfl⟩:=List.mem_iff_getElem.1 hx
  have b1:a<=l[i]:=by
   rcases Nat.eq_zero_or_pos i with e|e
   ·subst e;omega
   ·have:=hp 0 i h0 hi e;omega
  have b2:l[i]<=z:=by
   rcases Nat.lt_or_ge i (l.length-1)with e|e
   ·have:=hp i (l.length-1) hi h1 e;omega
   ·have:i=l.length-1:=by omega
    subst this;omega
  simp only[CJ,decide_eq_true_eq];omega
 |false=>
  cases hl:l.all CJ with
  |false=>rfl
  |true=>
   have m1:=List.all_eq_true.1 hl a (ha'▸List.getElem_mem h0)
   have m2:=List.all_eq_true.1 hl z (hz'▸List.getElem_mem h1)
   rw[m1,m2]at hc;cases hc
theorem P5 (l:List Int) (hl:l.length<=1000000):A17 193 [.t (.slice .any 1 (l.map Bz))] [] (.t (.bool (BR l))) []:=by
 have cr:=YC l hl
 have hlm:(l.map Bz).length=l.length:=List.length_map ..
 cases hr:DX l with
 |false=>
  rw[hr]at cr
  have e:BR l=false:=by simp[BR,hr]
  rw[e]
  refine ct0 Ag Tryz.func193 Y false Y Y ?_
  repeat'(first|exact prB|refine stC ?_|refine stU (fun h=>?_) fun h=>?_|refine stN (fun b hb=>?_)|refine stL ?_ (c:=cr)|fail)
  all_goals first|exact Ai Y (A1y Y)|exact Ai Y (AP Ac)
 |true=>
  rw[hr]at cr
  by_cases h0:l=[]
  ·subst h0
   refine ct0 Ag Tryz.func193 Y false Y Y ?_
   repeat'(first|exact prB|refine stC ?_|refine stU (fun h=>?_) fun h=>?_|refine stN (fun b hb=>?_)|refine stL ?_ (c:=cr)|fail)
   all_goals try(exfalso;simp_all;done)
   all_goals first|exact Ai Y (A1y Y)|exact Ai Y (AP (by simp[BR,DX]))
  ·have hpos:0<l.length:=List.length_pos_iff.2 h0
   have ha:l[0]?=some (l[0]'hpos):=List.getElem?_eq_getElem _
   have hz:l[l.length-1]?=some (l[l.length-1]' Aa):=List.getElem?_eq_getElem _
   generalize l[0]'hpos=a at ha
   generalize l[l.length-1]' Aa=z at hz
   have e:BR l=(CJ a&&CJ z):=by rw[BR,hr,YY hr ha hz,Bool.true_and]
   rw[e]
   have ca:=Ov a
   have cz:=Ov z
   generalize CJ a=A at ca⊢
   generalize CJ z=Z at cz⊢
   have hw:IntKind.i64.wrap (((l.map Bz).length:Int)-1)=((l.length-1:Nat):Int):=by rw[An Aa Aa];omega
   refine ct0 Ag Tryz.func193 Y false Y Y ?_
   repeat'(first|exact prB|refine stC ?_|refine stU (fun h=>?_) fun h=>?_|refine stN (fun b hb=>?_)|refine stL ?_ (c:=cr)|refine stL ?_ (c:=ca)|refine stL ?_ (c:=cz)|fail)
   all_goals try(exfalso;omega)
   all_goals first|exact Ai Y (A1y Y)|(refine Ai Y (AP ?_);simp_all;done)
def JA (c:Coord):Bool:=decide ((1<=c.pid/\c.pid<=8)/\(0<=c.epoch/\c.epoch<=100)/\(1<=c.timeout/\c.timeout<=20)/\(0<=c.age/\c.age<=1048576))
structure SmallC (c:Coord):Prop where
 parts:c.parts.length<=1000000
 pends:c.pends.length<=1000000
theorem Zr (c:Coord) (hc:SmallC c):A17 125 [.agg (Ah (A4 c))] [] (.t (.bool (DZ c))) []:=by
 have h1:=hc.pends
 have hlm:(c.pends.map AB).length=c.pends.length:=List.length_map ..
 have ca:=P5 c.parts hc.parts
 have cp:=YB c.pends hc.pends
 have e0:DZ c=(c.pends.all Cc&&(JA c&&(BR c.parts&&Hd c.pends))):=rfl
 rw[e0]
 generalize BR c.parts=A at ca⊢
 generalize Hd c.pends=R at cp⊢
 refine ct0 Ag Tryz.func125 Y false Y Y ?_
 repeat'(first|exact prB|refine stC ?_|refine stU (fun h=>?_) fun h=>?_|refine stN (fun b hb=>?_)|fail)
 refine A3 (ι:=Nat) (fun i=>i<=c.pends.length/\(c.pends.take i).all Cc=true) (fun i=>[(1,.ref 2 0),(6,.t (.slice .any 3 (c.pends.map AB))),(7,.t (.int .i64 ((c.pends.map AB).length:Int))),(8,.t (.int .i64 i))]) (fun _=>[(2,.cells (Ah (A4 c)))]) (fun i=>c.pends.length-i) 0 Ac ?_ ?_
 ·exact AE [] (Af Y Y (Af Y Y (Af Y Y (Af Y Y Aj)))) Y
 rintro i ⟨hi,hall⟩
 by_cases hlt:i<c.pends.length
 ·have hr:c.pends[i]?=some c.pends[i]:=List.getElem?_eq_getElem hlt
  generalize c.pends[i]=p at hr
  have ci:=Ad4 p
  cases hp:Cc p with
  |true=>
   rw[hp]at ci
   repeat'(first|exact prB|refine stC ?_|refine stU (fun h=>?_) fun h=>?_|refine stN (fun b hb=>?_)|refine stL ?_ (c:=ci)|fail)
   all_goals refine Ay (i+1) ⟨hlt,by rw[A5 hr,List.all_append,hall];simp[hp]⟩ Aa [4] (Af Y Y (Af Y Y (Af Y Y (Af Y (by rw[An Aa Aa];rfl) Aj)))) Y
  |false=>
   rw[hp]at ci
   have hno:c.pends.all Cc=false:=by
    cases hq:c.pends.all Cc with
    |false=>rfl
    |true=>rw[List.all_eq_true.1 hq p (List.mem_of_getElem? hr)]at hp;cases hp
   rw[hno]
   repeat'(first|exact prB|refine stC ?_|refine stU (fun h=>?_) fun h=>?_|refine stN (fun b hb=>?_)|refine stL ?_ (c:=ci)|fail)
   all_goals exact Ai Y (A1y Y)
 ·rw[List.take_of_length_le Aa]at hall
  rw[hall,Bool.true_and]
  repeat'(first|exact prB|refine stC ?_|refine stU (fun h=>?_) fun h=>?_|refine stN (fun b hb=>?_)|refine stL ?_ (c:=ca)|refine stL ?_ (c:=cp)|fail)
  all_goals try(exfalso;omega)
  all_goals first
   |(have e:JA c=true:=by(simp only[JA,decide_eq_true_eq];omega)
     rw[e,Bool.true_and]
     refine Ai Y (AP ?_);simp_all;done)
   |(have e:JA c=false:=by(simp only[JA,decide_eq_false_iff_not];omega)
     rw[e,Bool.false_and]
     refine Ai Y (AP ?_);simp_all;done)
theorem SU (a b:Coord) (ha:SmallC a):A17 124 [.agg (Ah (A4 a)),.agg (Ah (A4 b))] [] (.t (.bool (decide (a=b)))) []:=by
 have ci:=TR a.parts b.parts (by have:=ha.parts;omega)
 have cp:=Vs a.pends b.pends (by have:=ha.pends;omega)
 refine ct0 Ag Tryz.func124 Y false Y Y ?_
 repeat'(first|exact prB|refine stC ?_|refine stU (fun h=>?_) fun h=>?_|refine stN (fun b hb=>?_)|refine stL ?_ (c:=ci)|refine stL ?_ (c:=cp)|fail)
 all_goals
  rcases a with⟨a1,a2,a3,a4,a5,a6,a7,a8⟩
  rcases b with⟨b1,b2,b3,b4,b5,b6,b7,b8⟩
  refine Ai Y (AP ?_)
  simp_all
end Go.Proofs.YtmohpcgmdheafaaGreatDoor
