/- Contracts and laws, joined: Xf, Xg, Xh. No condition beside those that each theorem names. -/
import Derived.Test.YtmohpcgmdheafaaGreatDoorZXe
set_option linter.unusedVariables false
set_option linter.unusedSimpArgs false
set_option maxRecDepth 100000
set_option maxHeartbeats 8000000
namespace Go.Proofs.YtmohpcgmdheafaaGreatDoor
open Go.Am
attribute [local irreducible] Decidable.decide Tr A2 hSK hSW
theorem Atj:Yk 96 1:=Ae3 Aj0
theorem Asv:Akn 96 1:=Ah6
theorem Dy (i:T) (n:Int):A17 32 [.t (.iface 96 (.ptr [i,.int .i64 n]))] [] (.t (.int .i64 n)) []:=by
 have ci:=Abi Asv [i,.int .i64 n] n 2 Y
 by_cases h2:n=2
 ·subst h2
  rw[decide_eq_true Y]at ci
  refine ct0 Ag Tryz.func32 Y false Y Y ?_
  repeat'(first|exact prB|refine stC ?_|refine stU (fun h=>?_) fun h=>?_|refine stN (fun b hb=>?_)|refine stL ?_ (c:=ci)|fail)
  all_goals exact Ai Y (A1y Y)
 ·rw[decide_eq_false h2]at ci
  refine ct0 Ag Tryz.func32 Y false Y Y ?_
  repeat'(first|exact prB|refine stC ?_|refine stU (fun h=>?_) fun h=>?_|refine stN (fun b hb=>?_)|refine stL ?_ (c:=ci)|refine A0 Ag [(6,1)] [(1,6)] Y Y Y Y Y (Uq Atj [i,.int .i64 n] n 0 Y) Y Y Y Y Y ?_|fail)
  all_goals exact Ai Y (A1y Y)
def stT (w:Bs) (n:Int):T:=.iface 96 (.ptr [.str w,.int .i64 n])
def H6 (c:Coord) (m:Int) (fit:Bool):T:=if fit=false\/Bp c=false then stT [97,110,32,97,114,103,117,109,101,110,116] 2 else if CY c.state m=false then stT [97,32,115,116,97,116,101] 180 else .nilIface
theorem IV (c:Coord) (hc:SmallC c) (m:Int) (fit:Bool):A17 31 [.agg (Ah (A4 c)),.t (.int .i8 m),.t (.bool fit)] [] (.t (H6 c m fit)) []:=by
 have cm:=JO c hc
 have cb:=Aez c.state m
 unfold H6
 generalize Bp c=M at cm⊢
 generalize CY c.state m=B at cb⊢
 cases fit<;>cases M<;>cases B
 all_goals
  refine ct0 Ag Tryz.func31 Y false Y Y ?_
  repeat'(first|exact prB|refine CO 15 30 Y Y Y Y Y ?_|refine CO 23 46 Y Y Y Y Y ?_|refine stC ?_|refine stU (fun h=>?_) fun h=>?_|refine stN (fun b hb=>?_)|refine stL ?_ (c:=cm)|refine stL ?_ (c:=cb)|fail)
  all_goals try(exfalso;simp_all;done)
  all_goals exact Ai Y (A1y (by simp[stT]))
theorem Cp:Sub (AV.agg (Ah Qw.zero)) (AV.agg (Ah (A4 BD))):=AA (show DU _ _ from⟨A1x _,A1x _,A1x _,A1x _,A1x _,Ak,Ak,A1x _,trivial⟩)
theorem D2 {c:Coord} (h:Bp c=true) (h0:c.state≠0):DZ c=true:=by
 unfold Bp at h
 simp only[h0,if_false]at h
 repeat' split at h
 all_goals simp_all
theorem DY {c:Coord} (h:DZ c=true):(1<=c.pid/\c.pid<=8)/\(0<=c.epoch/\c.epoch<=100)/\(1<=c.timeout/\c.timeout<=20)/\(0<=c.age/\c.age<=1048576):=by
 unfold DZ at h
 simp only[Bool.and_eq_true,decide_eq_true_eq]at h
 exact h.2.1
theorem Ang {s:Int} (h:CY s 3=true):s=3\/s=4:=by
 unfold CY at h
 repeat' split at h
 all_goals simp_all
theorem IW (c:Coord) (hc:SmallC c):A17 207 [.agg (Ah (A4 c))] [] (.tuple [.agg (Ah (A4 (Cd c))),.t (.int .i64 (DH c))]) []:=by
 have cc:=IV c hc 3 true
 unfold H6 at cc
 by_cases hm:Bp c=true
 ·by_cases hb:CY c.state 3=true
  ·have e:DH c=0:=by simp[DH,Fw,hm,hb]
   simp only[hm,hb,Bool.true_eq_false,or_self,if_false]at cc
   rw[e]
   have hs:=Ang hb
   have hn:=DY (D2 hm Aa)
   have ec:Cd c=if 0<c.thn then⟨1,c.pid,c.epoch+1,c.thn,0,[],[],0⟩else⟨if c.state=4 then 6 else 5,c.pid,c.epoch,c.timeout,0,[],[],0⟩:=by simp[Cd,e]
   rw[ec]
   have hw:IntKind.i64.wrap (c.epoch+1)=c.epoch+1:=An Aa Aa
   by_cases ht:0<c.thn
   ·rw[if_pos ht]
    refine ct0 Ag Tryz.func207 Y false Y Y ?_
    repeat'(first|exact prB|refine stC ?_|refine stU (fun h=>?_) fun h=>?_|refine stN (fun b hb=>?_)|refine stL ?_ (c:=cc)|refine BC (id:=8) (m:=9) (ms:=[0,1,3,0,8,0,32,103,231,511,1023]) Ag [(6,10),(8,10)] Ab Y Y Y Y Ab Ab ?_|fail)
    all_goals try(exfalso;omega)
    all_goals(refine Ai Y ?_;simp only[hw];repeat'(first|exact A1x _|exact Ak|exact Ar|exact trivial|refine AA ?_|refine Ap ?_|refine And.intro ?_ ?_))
   ·rw[if_neg ht]
    rcases hs with hs|hs
    all_goals
     simp only[hs,if_true,if_false,Int.reduceEq]
     refine ct0 Ag Tryz.func207 Y false Y Y ?_
     repeat'(first|exact prB|refine stC ?_|refine stU (fun h=>?_) fun h=>?_|refine stN (fun b hb=>?_)|refine stL ?_ (c:=cc)|fail)
     all_goals try(exfalso;omega)
     all_goals(refine Ai Y ?_;repeat'(first|exact A1x _|exact Ak|exact Ar|exact trivial|refine AA ?_|refine Ap ?_|refine And.intro ?_ ?_))
  ·have e:DH c=180:=by simp[DH,Fw,hm,hb]
   have ec:Cd c=BD:=by simp[Cd,e]
   simp only[hm,hb,Bool.true_eq_false,or_self,if_false,if_true,Bool.not_eq_true]at cc
   rw[e,ec]
   have hb':CY c.state 3=false:=by simpa using hb
   try simp only[hb',if_true]at cc
   have cd:=Dy (.str [97,32,115,116,97,116,101]) 180
   refine ct0 Ag Tryz.func207 Y false Y Y ?_
   repeat'(first|exact prB|refine stC ?_|refine stU (fun h=>?_) fun h=>?_|refine stN (fun b hb=>?_)|refine stL ?_ (c:=cc)|refine stL ?_ (c:=cd)|fail)
   all_goals(refine Ai Y ?_;first|exact A1x _|exact Ap ⟨Cp,A1x _,trivial⟩)
 ·have hm':Bp c=false:=by simpa using hm
  have e:DH c=2:=by simp[DH,Fw,hm']
  have ec:Cd c=BD:=by simp[Cd,e]
  simp only[hm',or_true,if_true]at cc
  rw[e,ec]
  have cd:=Dy (.str [97,110,32,97,114,103,117,109,101,110,116]) 2
  refine ct0 Ag Tryz.func207 Y false Y Y ?_
  repeat'(first|exact prB|refine stC ?_|refine stU (fun h=>?_) fun h=>?_|refine stN (fun b hb=>?_)|refine stL ?_ (c:=cc)|refine stL ?_ (c:=cd)|fail)
  all_goals(refine Ai Y ?_;first|exact A1x _|exact Ap ⟨Cp,A1x _,trivial⟩)
theorem VV (c:Coord) (hc:SmallC c) (thn:Int):A17 14 [.agg (Ah (A4 c)),.t (.bool true),.t (.int .i64 thn)] [] (.tuple [.agg (Ah (A4 (C9 c true thn))),.t (.int .i64 (Cb c true thn))]) []:=by
 have ef:decide ((0<=thn/\thn<=20)/\(true=true->thn=0))=decide ((0<=thn/\thn<=20)/\thn=0):=by simp
 have key: ∀f,f=decide ((0<=thn/\thn<=20)/\thn=0)->A17 31 [.agg (Ah (A4 c)),.t (.int .i8 2),.t (.bool f)] [] (.t (H6 c 2 (decide ((0<=thn/\thn<=20)/\thn=0)))) []:=fun f hf=>by subst hf;exact IV c hc 2 _
 have hE:Fw c 2 (decide ((0<=thn/\thn<=20)/\(true=true->thn=0)))=Fw c 2 (decide ((0<=thn/\thn<=20)/\thn=0)):=by rw[ef]
 by_cases ha:decide ((0<=thn/\thn<=20)/\thn=0)=false\/Bp c=false
 ·have e:Cb c true thn=2:=by unfold Cb;rw[hE,show Fw c 2 _=2 from if_pos ha];simp
  have ec:C9 c true thn=BD:=by simp[C9,e]
  simp only[H6,if_pos ha]at key
  rw[e,ec]
  have cd:=Dy (.str [97,110,32,97,114,103,117,109,101,110,116]) 2
  refine ct0 Ag Tryz.func14 Y false Y Y ?_
  repeat'(first|exact prB|refine stC ?_|refine stU (fun h=>?_) fun h=>?_|refine stN (fun b hb=>?_)|refine stL ?_ (c:=key _ (by first|exact bI Aa|exact bT Aa|exact bF Aa))|refine stL ?_ (c:=cd)|fail)
  all_goals try(exfalso;omega)
  all_goals(refine Ai Y ?_;first|exact A1x _|exact Ap ⟨Cp,A1x _,trivial⟩)
 ·have hm:Bp c=true:=by
   cases h:Bp c with
   |true=>rfl
   |false=>exact absurd (.inr h) ha
  have hf:((0<=thn/\thn<=20)/\thn=0):=by
   cases h:decide ((0<=thn/\thn<=20)/\thn=0)with
   |true=>simpa using h
   |false=>exact absurd (.inl h) ha
  cases hb:CY c.state 2 with
  |false=>
   have e:Cb c true thn=180:=by unfold Cb;rw[hE,show Fw c 2 _=180 from(if_neg ha).trans (if_pos hb)];simp
   have ec:C9 c true thn=BD:=by simp[C9,e]
   simp only[H6,if_neg ha,hb,if_true]at key
   rw[e,ec]
   have cd:=Dy (.str [97,32,115,116,97,116,101]) 180
   refine ct0 Ag Tryz.func14 Y false Y Y ?_
   repeat'(first|exact prB|refine stC ?_|refine stU (fun h=>?_) fun h=>?_|refine stN (fun b hb=>?_)|refine stL ?_ (c:=key _ (by first|exact bI Aa|exact bT Aa|exact bF Aa))|refine stL ?_ (c:=cd)|fail)
   all_goals try(exfalso;omega)
   all_goals(refine Ai Y ?_;first|exact A1x _|exact Ap ⟨Cp,A1x _,trivial⟩)
  |true=>
   have hE0:Fw c 2 (decide ((0<=thn/\thn<=20)/\thn=0))=0:=(if_neg ha).trans (if_neg (by rw[hb];decide))
   simp only[H6,if_neg ha,hb,Bool.true_eq_false,if_false]at key
   by_cases hx:0<thn/\100<=c.epoch
   ·have e:Cb c true thn=102:=by unfold Cb;rw[hE,hE0,if_pos hx];simp
    have ec:C9 c true thn=BD:=by simp[C9,e]
    rw[e,ec]
    have cd:=Dy (.str [97,110,32,101,112,111,99,104]) 102
    refine ct0 Ag Tryz.func14 Y false Y Y ?_
    repeat'(first|exact prB|refine CO 40 80 Y Y Y Y Y ?_|refine stC ?_|refine stU (fun h=>?_) fun h=>?_|refine stN (fun b hb=>?_)|refine stL ?_ (c:=key _ (by first|exact bI Aa|exact bT Aa|exact bF Aa))|refine stL ?_ (c:=cd)|fail)
    all_goals try(exfalso;omega)
    all_goals(refine Ai Y ?_;first|exact A1x _|exact Ap ⟨Cp,A1x _,trivial⟩)
   ·have e:Cb c true thn=0:=by unfold Cb;rw[hE,hE0,if_neg hx];simp
    have ec:C9 c true thn={c with state:=3,thn:=thn}:=by simp[C9,e]
    rw[e,ec]
    have co:=Q7 c hc
    refine ct0 Ag Tryz.func14 Y false Y Y ?_
    repeat'(first|exact prB|refine CO 40 80 Y Y Y Y Y ?_|refine stC ?_|refine stU (fun h=>?_) fun h=>?_|refine stN (fun b hb=>?_)|refine stL ?_ (c:=key _ (by first|exact bI Aa|exact bT Aa|exact bF Aa))|refine stL ?_ (c:=co)|fail)
    all_goals try(exfalso;omega)
    all_goals(refine Ai Y ?_;repeat'(first|exact A1x _|exact Ak|exact Ar|exact trivial|refine AA ?_|refine Ap ?_|refine And.intro ?_ ?_))
theorem U7 (c:Coord) (hc:SmallC c) (thn:Int):A17 14 [.agg (Ah (A4 c)),.t (.bool false),.t (.int .i64 thn)] [] (.tuple [.agg (Ah (A4 (C9 c false thn))),.t (.int .i64 (Cb c false thn))]) []:=by
 have ef:decide ((0<=thn/\thn<=20)/\(false=true->thn=0))=decide (0<=thn/\thn<=20):=by simp
 have key: ∀f,f=decide (0<=thn/\thn<=20)->A17 31 [.agg (Ah (A4 c)),.t (.int .i8 2),.t (.bool f)] [] (.t (H6 c 2 (decide (0<=thn/\thn<=20)))) []:=fun f hf=>by subst hf;exact IV c hc 2 _
 have hE:Fw c 2 (decide ((0<=thn/\thn<=20)/\(false=true->thn=0)))=Fw c 2 (decide (0<=thn/\thn<=20)):=by rw[ef]
 by_cases ha:decide (0<=thn/\thn<=20)=false\/Bp c=false
 ·have e:Cb c false thn=2:=by unfold Cb;rw[hE,show Fw c 2 _=2 from if_pos ha];simp
  have ec:C9 c false thn=BD:=by simp[C9,e]
  simp only[H6,if_pos ha]at key
  rw[e,ec]
  have cd:=Dy (.str [97,110,32,97,114,103,117,109,101,110,116]) 2
  refine ct0 Ag Tryz.func14 Y false Y Y ?_
  repeat'(first|exact prB|refine stC ?_|refine stU (fun h=>?_) fun h=>?_|refine stN (fun b hb=>?_)|refine stL ?_ (c:=key _ (by first|exact bI Aa|exact bT Aa|exact bF Aa))|refine stL ?_ (c:=cd)|fail)
  all_goals try(exfalso;omega)
  all_goals(refine Ai Y ?_;first|exact A1x _|exact Ap ⟨Cp,A1x _,trivial⟩)
 ·have hm:Bp c=true:=by
   cases h:Bp c with
   |true=>rfl
   |false=>exact absurd (.inr h) ha
  have hf:(0<=thn/\thn<=20):=by
   cases h:decide (0<=thn/\thn<=20)with
   |true=>simpa using h
   |false=>exact absurd (.inl h) ha
  cases hb:CY c.state 2 with
  |false=>
   have e:Cb c false thn=180:=by unfold Cb;rw[hE,show Fw c 2 _=180 from(if_neg ha).trans (if_pos hb)];simp
   have ec:C9 c false thn=BD:=by simp[C9,e]
   simp only[H6,if_neg ha,hb,if_true]at key
   rw[e,ec]
   have cd:=Dy (.str [97,32,115,116,97,116,101]) 180
   refine ct0 Ag Tryz.func14 Y false Y Y ?_
   repeat'(first|exact prB|refine stC ?_|refine stU (fun h=>?_) fun h=>?_|refine stN (fun b hb=>?_)|refine stL ?_ (c:=key _ (by first|exact bI Aa|exact bT Aa|exact bF Aa))|refine stL ?_ (c:=cd)|fail)
   all_goals try(exfalso;omega)
   all_goals(refine Ai Y ?_;first|exact A1x _|exact Ap ⟨Cp,A1x _,trivial⟩)
  |true=>
   have hE0:Fw c 2 (decide (0<=thn/\thn<=20))=0:=(if_neg ha).trans (if_neg (by rw[hb];decide))
   simp only[H6,if_neg ha,hb,Bool.true_eq_false,if_false]at key
   by_cases hx:0<thn/\100<=c.epoch
   ·have e:Cb c false thn=102:=by unfold Cb;rw[hE,hE0,if_pos hx];simp
    have ec:C9 c false thn=BD:=by simp[C9,e]
    rw[e,ec]
    have cd:=Dy (.str [97,110,32,101,112,111,99,104]) 102
    refine ct0 Ag Tryz.func14 Y false Y Y ?_
    repeat'(first|exact prB|refine CO 40 80 Y Y Y Y Y ?_|refine stC ?_|refine stU (fun h=>?_) fun h=>?_|refine stN (fun b hb=>?_)|refine stL ?_ (c:=key _ (by first|exact bI Aa|exact bT Aa|exact bF Aa))|refine stL ?_ (c:=cd)|fail)
    all_goals try(exfalso;omega)
    all_goals(refine Ai Y ?_;first|exact A1x _|exact Ap ⟨Cp,A1x _,trivial⟩)
   ·have e:Cb c false thn=0:=by unfold Cb;rw[hE,hE0,if_neg hx];simp
    have ec:C9 c false thn={c with state:=4,thn:=thn}:=by simp[C9,e]
    rw[e,ec]
    have co:=Q7 c hc
    refine ct0 Ag Tryz.func14 Y false Y Y ?_
    repeat'(first|exact prB|refine CO 40 80 Y Y Y Y Y ?_|refine stC ?_|refine stU (fun h=>?_) fun h=>?_|refine stN (fun b hb=>?_)|refine stL ?_ (c:=key _ (by first|exact bI Aa|exact bT Aa|exact bF Aa))|refine stL ?_ (c:=co)|fail)
    all_goals try(exfalso;omega)
    all_goals(refine Ai Y ?_;repeat'(first|exact A1x _|exact Ak|exact Ar|exact trivial|refine AA ?_|refine Ap ?_|refine And.intro ?_ ?_))
theorem Ad9 (l:List Int):B5 56 1 (l.map Bz) (.row 56 1 0 (l.map Bz).length)=.t (.slice .any 1 (l.map Bz)):=by
 simp[B5]
 exact List.take_of_length_le Ac
theorem LJ (c:Coord) (hc:SmallC c) (l:List Int) (hl:l.length<=1000000):A17 146 [.agg (Ah (A4 c)),.t (.slice .any 1 (l.map Bz))] [] (.tuple [.agg (Ah (A4 (Ed c l))),.t (.int .i64 (Fq c l))]) []:=by
 have cm:=JO c hc
 have ca:=P5 l hl
 have co:=Q7 c hc
 have hfz:=Ad9 l
 have hpa:(((l.map Bz).length:Int)=0)↔l=[]:=by simp
 have hpe:(((c.pends.map AB).length:Int)=0)↔c.pends=[]:=by simp
 have hlm:(l.map Bz).length=l.length:=List.length_map ..
 by_cases h1:Bp c=false\/BR l=false
 ·have e:Fq c l=2:=if_pos h1
  have ec:Ed c l=BD:=by unfold Ed;rw[e];simp
  rw[e,ec]
  generalize Bp c=M at cm h1
  generalize BR l=A at ca h1
  refine ct0 Ag Tryz.func146 Y false Y Y ?_
  repeat'(first|exact prB|refine stC ?_|refine stU (fun h=>?_) fun h=>?_|refine stN (fun b hb=>?_)|refine stL ?_ (c:=cm)|refine stL ?_ (c:=ca)|fail)
  all_goals try(exfalso;simp_all;done)
  all_goals(refine Ai Y ?_;first|exact A1x _|exact Ap ⟨Cp,A1x _,trivial⟩)
 ·have hm:Bp c=true:=by
   cases h:Bp c with
   |true=>rfl
   |false=>exact absurd (.inl h) h1
  have hp:BR l=true:=by
   cases h:BR l with
   |true=>rfl
   |false=>exact absurd (.inr h) h1
  rw[hm]at cm
  rw[hp]at ca
  by_cases h2:c.state=0/\l≠[]
  ·have e:Fq c l=180:=(if_neg h1).trans (if_pos h2)
   have ec:Ed c l=BD:=by unfold Ed;rw[e];simp
   rw[e,ec]
   have hn: ¬((l.map Bz).length:Int)=0:=fun x=>h2.2 (hpa.1 x)
   have h20:=h2.1
   refine ct0 Ag Tryz.func146 Y false Y Y ?_
   repeat'(first|exact prB|refine stC ?_|refine stU (fun h=>?_) fun h=>?_|refine stN (fun b hb=>?_)|refine stL ?_ (c:=cm)|refine stL ?_ (c:=ca)|fail)
   all_goals try(exfalso;omega)
   all_goals(refine Ai Y ?_;first|exact A1x _|exact Ap ⟨Cp,A1x _,trivial⟩)
  ·have e:Fq c l=0:=(if_neg h1).trans (if_neg h2)
   have ec:Ed c l=(if c.state=3\/c.state=4 then{c with parts:=l}else if c.state=2 then(if l=[]/\c.pends=[]then{c with parts:=l,state:=1,age:=0}else{c with parts:=l})else if l≠[]then{c with parts:=l,state:=2}else{c with parts:=l}):=by
    unfold Ed;rw[e];simp
   rw[e,ec]
   by_cases hz:l=[]
   ·have hz0:((l.map Bz).length:Int)=0:=hpa.2 hz
    by_cases s34:c.state=3\/c.state=4
    ·rw[if_pos s34]
     refine ct0 Ag Tryz.func146 Y false Y Y ?_
     repeat'(first|exact prB|refine stC ?_|refine stU (fun h=>?_) fun h=>?_|refine stN (fun b hb=>?_)|refine stL ?_ (c:=cm)|refine stL ?_ (c:=ca)|refine stL ?_ (c:=co)|refine BF 28 56 Y Y Y hfz ?_|fail)
     all_goals try(exfalso;omega)
     all_goals refine Ai Y ?_
     all_goals repeat'(first|exact A1x _|exact Ak|exact Ar|exact trivial|refine AA ?_|refine Ap ?_|refine And.intro ?_ ?_)
     all_goals exact A1y hfz
    ·rw[if_neg s34]
     by_cases s2:c.state=2
     ·rw[if_pos s2]
      by_cases hpz:c.pends=[]
      ·rw[if_pos ⟨hz,hpz⟩]
       have hpz0:((c.pends.map AB).length:Int)=0:=hpe.2 hpz
       refine ct0 Ag Tryz.func146 Y false Y Y ?_
       repeat'(first|exact prB|refine stC ?_|refine stU (fun h=>?_) fun h=>?_|refine stN (fun b hb=>?_)|refine stL ?_ (c:=cm)|refine stL ?_ (c:=ca)|refine stL ?_ (c:=co)|refine BF 28 56 Y Y Y hfz ?_|fail)
       all_goals try(exfalso;omega)
       all_goals refine Ai Y ?_
       all_goals repeat'(first|exact A1x _|exact Ak|exact Ar|exact trivial|refine AA ?_|refine Ap ?_|refine And.intro ?_ ?_)
       all_goals exact A1y hfz
      ·rw[if_neg (fun x=>hpz x.2)]
       have hpz0: ¬((c.pends.map AB).length:Int)=0:=fun x=>hpz (hpe.1 x)
       refine ct0 Ag Tryz.func146 Y false Y Y ?_
       repeat'(first|exact prB|refine stC ?_|refine stU (fun h=>?_) fun h=>?_|refine stN (fun b hb=>?_)|refine stL ?_ (c:=cm)|refine stL ?_ (c:=ca)|refine stL ?_ (c:=co)|refine BF 28 56 Y Y Y hfz ?_|fail)
       all_goals try(exfalso;omega)
       all_goals refine Ai Y ?_
       all_goals repeat'(first|exact A1x _|exact Ak|exact Ar|exact trivial|refine AA ?_|refine Ap ?_|refine And.intro ?_ ?_)
       all_goals exact A1y hfz
     ·rw[if_neg s2,if_neg (fun x=>x hz)]
      refine ct0 Ag Tryz.func146 Y false Y Y ?_
      repeat'(first|exact prB|refine stC ?_|refine stU (fun h=>?_) fun h=>?_|refine stN (fun b hb=>?_)|refine stL ?_ (c:=cm)|refine stL ?_ (c:=ca)|refine stL ?_ (c:=co)|refine BF 28 56 Y Y Y hfz ?_|fail)
      all_goals try(exfalso;omega)
      all_goals refine Ai Y ?_
      all_goals repeat'(first|exact A1x _|exact Ak|exact Ar|exact trivial|refine AA ?_|refine Ap ?_|refine And.intro ?_ ?_)
      all_goals exact A1y hfz
   ·have hz0: ¬((l.map Bz).length:Int)=0:=fun x=>hz (hpa.1 x)
    have s0: ¬c.state=0:=fun x=>h2 ⟨x,hz⟩
    by_cases s34:c.state=3\/c.state=4
    ·rw[if_pos s34]
     refine ct0 Ag Tryz.func146 Y false Y Y ?_
     repeat'(first|exact prB|refine stC ?_|refine stU (fun h=>?_) fun h=>?_|refine stN (fun b hb=>?_)|refine stL ?_ (c:=cm)|refine stL ?_ (c:=ca)|refine stL ?_ (c:=co)|refine BF 28 56 Y Y Y hfz ?_|fail)
     all_goals try(exfalso;omega)
     all_goals refine Ai Y ?_
     all_goals repeat'(first|exact A1x _|exact Ak|exact Ar|exact trivial|refine AA ?_|refine Ap ?_|refine And.intro ?_ ?_)
     all_goals exact A1y hfz
    ·rw[if_neg s34]
     by_cases s2:c.state=2
     ·rw[if_pos s2,if_neg (fun x=>hz x.1)]
      refine ct0 Ag Tryz.func146 Y false Y Y ?_
      repeat'(first|exact prB|refine stC ?_|refine stU (fun h=>?_) fun h=>?_|refine stN (fun b hb=>?_)|refine stL ?_ (c:=cm)|refine stL ?_ (c:=ca)|refine stL ?_ (c:=co)|refine BF 28 56 Y Y Y hfz ?_|fail)
      all_goals try(exfalso;omega)
      all_goals refine Ai Y ?_
      all_goals repeat'(first|exact A1x _|exact Ak|exact Ar|exact trivial|refine AA ?_|refine Ap ?_|refine And.intro ?_ ?_)
      all_goals exact A1y hfz
     ·rw[if_neg s2,if_pos hz]
      refine ct0 Ag Tryz.func146 Y false Y Y ?_
      repeat'(first|exact prB|refine stC ?_|refine stU (fun h=>?_) fun h=>?_|refine stN (fun b hb=>?_)|refine stL ?_ (c:=cm)|refine stL ?_ (c:=ca)|refine stL ?_ (c:=co)|refine BF 28 56 Y Y Y hfz ?_|fail)
      all_goals try(exfalso;omega)
      all_goals refine Ai Y ?_
      all_goals repeat'(first|exact A1x _|exact Ak|exact Ar|exact trivial|refine AA ?_|refine Ap ?_|refine And.intro ?_ ?_)
      all_goals exact A1y hfz
end Go.Proofs.YtmohpcgmdheafaaGreatDoor
