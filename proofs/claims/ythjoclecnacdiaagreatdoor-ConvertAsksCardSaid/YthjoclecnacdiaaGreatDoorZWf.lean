/- Contracts of the program and of references: tables. -/
import Derived.Test.YthjoclecnacdiaaGreatDoorZM9
import Derived.Test.YthjoclecnacdiaaGreatDoorZM10
import Derived.Test.YthjoclecnacdiaaGreatDoorZE2
import Derived.Test.YthjoclecnacdiaaGreatDoorZE1
import Derived.Test.YthjoclecnacdiaaGreatDoorZW1
import Derived.Test.YthjoclecnacdiaaGreatDoorZQa
set_option linter.unusedVariables false
set_option linter.unusedSimpArgs false
namespace Go.Proofs.YthjoclecnacdiaaGreatDoor
open Go.Am
attribute [local irreducible] Decidable.decide
set_option maxRecDepth 100000
set_option maxHeartbeats 1000000
theorem Rt:Y6 119 1:=fun pb po t n old w h1 h2 h3 h4=>(VX pb po t n old w h1 h2 h3 h4).mono fun ev w' h=>⟨h.1,_,_,_,_,h.2⟩
theorem QH:Abq 119 1:=fun pb po n k w h=>by
 by_cases e:n=k
 ·subst e;simp only[decide_true];exact Ul pb po n n w h J
 ·simp only[e,decide_false];exact Um pb po n k w h e
theorem MD:Ct Tryz.prog 35 [.t .nilIface] [] (.t (.int .i64 0)) []:=by
 refine ct0 Ab Tryz.func35 J false J J ?_
 repeat'(first|refine Ak Ab J J J J J ?_|refine Ap Ab J J J ?_|refine A0 ?_|refine A9 ?_|refine Aw Ab J J ?_|(refine A1 J J J J J (ht:=fun h=>?_) (hf:=fun h=>?_)<;>try exact prn)|(refine A2 J J J J J (ht:=fun h=>?_) (hf:=fun h=>?_)<;>try exact prn)|refine Ag J J J J J ?_|(refine Al J (ht:=fun h=>?_) (hf:=fun h=>?_)<;>try exact prn)|refine Au ?_|refine Aq ?_|refine Ar ?_|refine A3 ?_|refine Aj Ab J J J J J J J (Ac Z) J ?_|refine Ae Ab J J J J J J J Z (Ac Z) J ?_|refine Ah Ab J J J J J J J J J J J J J (by simp[Ad];omega) ?_|refine Af Ab J J J J J J J J J J J J J J (by simp[Ad];omega) ?_|refine A8 Ab J J J J J (fun _=>rfl) (fun b hb=>?_)|refine As J J J J ?_|refine A4 ?_|(refine A5 J J J J J (ht:=fun h=>?_) (hf:=fun h=>?_)<;>try exact prn)|(refine A6 J J J J J (ht:=fun h=>?_) (hf:=fun h=>?_)<;>try exact prn)|refine Ai J J J J J ?_|refine An J J J J J J J (Ac Z) J ?_|refine Ao J J J J J J J Z (Ac Z) J ?_)
 exact AC J (Sub.of_eq J)
theorem Ot (s:Bs) (n:Int):Ct Tryz.prog 35 [.t (Fj 119 s n)] [] (.t (.int .i64 n)) []:=by
 refine ct0 Ab Tryz.func35 J false J J ?_
 repeat'(first|refine Ak Ab J J J J J ?_|refine Ap Ab J J J ?_|refine A0 ?_|refine A9 ?_|refine Aw Ab J J ?_|(refine A1 J J J J J (ht:=fun h=>?_) (hf:=fun h=>?_)<;>try exact prn)|(refine A2 J J J J J (ht:=fun h=>?_) (hf:=fun h=>?_)<;>try exact prn)|refine Ag J J J J J ?_|(refine Al J (ht:=fun h=>?_) (hf:=fun h=>?_)<;>try exact prn)|refine Au ?_|refine Aq ?_|refine Ar ?_|refine A3 ?_|refine Aj Ab J J J J J J J (Ac Z) J ?_|refine Ae Ab J J J J J J J Z (Ac Z) J ?_|refine Ah Ab J J J J J J J J J J J J J (by simp[Ad];omega) ?_|refine Af Ab J J J J J J J J J J J J J J (by simp[Ad];omega) ?_|refine A8 Ab J J J J J (fun _=>rfl) (fun b hb=>?_)|refine As J J J J ?_|refine A4 ?_|(refine A5 J J J J J (ht:=fun h=>?_) (hf:=fun h=>?_)<;>try exact prn)|(refine A6 J J J J J (ht:=fun h=>?_) (hf:=fun h=>?_)<;>try exact prn)|refine Ai J J J J J ?_|refine An J J J J J J J (Ac Z) J ?_|refine Ao J J J J J J J Z (Ac Z) J ?_|refine A7 Ab J J J J J J J (Abf QH [.str s,.int .i64 n] n 2 J) J J ?_|refine AR Ab [(6,1)] [(1,6)] J J J J J (XE Rt [.str s,.int .i64 n] n 0 J) J J J J J ?_)
 all_goals(refine AC J (Sub.of_eq ?_);first|rfl|(rw[show n=2 by omega]))
def F5 (t:Table):Bool:=decide ((0≤t.start∧t.start≤t.fin∧t.fin≤1048576)∧(t.new.length:Int)=t.fin-t.start+1)
theorem Dg (t:Table):Ck t=(F5 t&&CF 0 t.new):=rfl
def GB:Int→List Int→Int
 |m,[]=>m
 |_,n::l=>GB n l
theorem Ir: ∀(m:Int) (l r:List Int),CF m (l++r)=(CF m l&&CF (GB m l) r)
 |m,[],r=>by simp[CF,GB]
 |m,n::l,r=>by simp[CF,GB,Ir n l r,Bool.and_assoc]
theorem Nh: ∀(m:Int) (l:List Int) (n:Int),GB m (l++[n])=n
 |m,[],n=>rfl
 |m,a::l,n=>Nh a l n
theorem Kq {l:List Int} {i:Nat} {n:Int} (h:l[i]?=some n):CF 0 (l.take (i+1))=(CF 0 (l.take i)&&decide (GB 0 (l.take i)≤n∧n≤1048576)):=by
 rw[BK h,Ir];simp[CF]
theorem LK {l:List Int} {i:Nat} {n:Int} (h:l[i]?=some n):GB 0 (l.take (i+1))=n:=by rw[BK h,Nh]
theorem GQ {l:List Int} {i:Nat} (h:CF 0 (l.take i)=false):CF 0 l=false:=by
 rw[←List.take_append_drop i l,Ir,h];rfl
theorem MU: ∀(m:Int) (l:List Int),CF m l=true→m≤GB m l
 |m,[],_=>Int.le_refl _
 |m,n::l,h=>by
  simp only[CF,Bool.and_eq_true,decide_eq_true_eq]at h
  have:=MU n l h.2
  simp only[GB];omega
theorem GH {t:Table} (h:Ck t=true):(0≤t.start∧t.start≤t.fin∧t.fin≤1048576)∧(t.new.length:Int)=t.fin-t.start+1:=by
 rw[Dg,Bool.and_eq_true]at h
 exact of_decide_eq_true h.1
def tbT (t:Table):T:=if Ck t=true then .nilIface else if F5 t=true then Fj 119 [97,32,110,101,119,32,111,102,102,115,101,116] 2 else Fj 119 [116,104,101,32,98,111,117,110,100,115,32,111,102,32,97,32,116,97,98,108,101] 2
theorem Ql {t:Table} (h: ¬((0≤t.start∧t.start≤t.fin∧t.fin≤1048576)∧(t.new.length:Int)=t.fin-t.start+1)):tbT t=Fj 119 [116,104,101,32,98,111,117,110,100,115,32,111,102,32,97,32,116,97,98,108,101] 2:=by
 have hb:F5 t=false:=decide_eq_false h
 simp[tbT,Dg,hb]
theorem UY {t:Table} (hb:F5 t=true) (h:CF 0 t.new=false):tbT t=Fj 119 [97,32,110,101,119,32,111,102,102,115,101,116] 2:=by
 simp[tbT,Dg,hb,h]
theorem XN {t:Table} (hb:F5 t=true) (h:CF 0 t.new=true):tbT t=.nilIface:=by
 simp[tbT,Dg,hb,h]
theorem ME (t:Table) (hl:t.new.length≤1000000000):Ct Tryz.prog 57 [.agg (AA (AN t))] [] (.t (tbT t)) []:=by
 have hlm:(t.new.map QV).length=t.new.length:=List.length_map ..
 by_cases hb:(0≤t.start∧t.start≤t.fin∧t.fin≤1048576)∧(t.new.length:Int)=t.fin-t.start+1
 ·obtain⟨⟨hb1,hb2,hb3⟩,hb4⟩:=hb
  have hbt:F5 t=true:=decide_eq_true ⟨⟨hb1,hb2,hb3⟩,hb4⟩
  have hw:IntKind.i64.wrap (IntKind.i64.wrap (t.fin-t.start)+1)=t.fin-t.start+1:=by rw[AW (n:=t.fin-t.start) O O,AW O O]
  refine ct0 Ab Tryz.func57 J false J J ?_
  repeat'(first|refine Ak Ab J J J J J ?_|refine Ap Ab J J J ?_|refine A0 ?_|refine A9 ?_|refine Aw Ab J J ?_|(refine A1 J J J J J (ht:=fun h=>?_) (hf:=fun h=>?_)<;>try exact prn)|(refine A2 J J J J J (ht:=fun h=>?_) (hf:=fun h=>?_)<;>try exact prn)|refine Ag J J J J J ?_|(refine Al J (ht:=fun h=>?_) (hf:=fun h=>?_)<;>try exact prn)|refine Au ?_|refine Aq ?_|refine Ar ?_|refine A3 ?_|refine Aj Ab J J J J J J J (Ac Z) J ?_|refine Ae Ab J J J J J J J Z (Ac Z) J ?_|refine Ah Ab J J J J J J J J J J J J J (by simp[Ad];omega) ?_|refine Af Ab J J J J J J J J J J J J J J (by simp[Ad];omega) ?_|refine A8 Ab J J J J J (fun _=>rfl) (fun b hb=>?_)|refine As J J J J ?_|refine A4 ?_|(refine A5 J J J J J (ht:=fun h=>?_) (hf:=fun h=>?_)<;>try exact prn)|(refine A6 J J J J J (ht:=fun h=>?_) (hf:=fun h=>?_)<;>try exact prn)|refine Ai J J J J J ?_|refine An J J J J J J J (Ac Z) J ?_|refine Ao J J J J J J J Z (Ac Z) J ?_)
  all_goals try(exfalso;(try rw[hw]at*);(try rw[hlm]at*);omega)
  refine BC (ι:=Nat) (fun i=>i≤t.new.length∧CF 0 (t.new.take i)=true) (fun i=>[(3,.t (.int .i64 (GB 0 (t.new.take i)))),(37,.t (.slice .any 1 (t.new.map QV))),(38,.t (.int .i64 ((t.new.map QV).length:Int))),(39,.t (.int .i64 i))]) (fun _=>[]) (fun i=>t.new.length-i) 0 ⟨by simp,by simp[CF]⟩ ?_ ?_
  ·exact Ce [1] (Av J J (Av J J (Av J J (Av J J AJ)))) J
  rintro i ⟨hi,hri⟩
  by_cases hlt:i<t.new.length
  ·have hr:t.new[i]?=some t.new[i]:=List.getElem?_eq_getElem hlt
   generalize t.new[i]=n at hr
   have hst:=Kq hr
   rw[hri,Bool.true_and]at hst
   repeat'(first|refine Ak Ab J J J J J ?_|refine Ap Ab J J J ?_|refine A0 ?_|refine A9 ?_|refine Aw Ab J J ?_|(refine A1 J J J J J (ht:=fun h=>?_) (hf:=fun h=>?_)<;>try exact prn)|(refine A2 J J J J J (ht:=fun h=>?_) (hf:=fun h=>?_)<;>try exact prn)|refine Ag J J J J J ?_|(refine Al J (ht:=fun h=>?_) (hf:=fun h=>?_)<;>try exact prn)|refine Au ?_|refine Aq ?_|refine Ar ?_|refine A3 ?_|refine Aj Ab J J J J J J J (Ac Z) J ?_|refine Ae Ab J J J J J J J Z (Ac Z) J ?_|refine Ah Ab J J J J J J J J J J J J J (by simp[Ad];omega) ?_|refine Af Ab J J J J J J J J J J J J J J (by simp[Ad];omega) ?_|refine A8 Ab J J J J J (fun _=>rfl) (fun b hb=>?_)|refine As J J J J ?_|refine A4 ?_|(refine A5 J J J J J (ht:=fun h=>?_) (hf:=fun h=>?_)<;>try exact prn)|(refine A6 J J J J J (ht:=fun h=>?_) (hf:=fun h=>?_)<;>try exact prn)|refine Ai J J J J J ?_|refine An J J J J J J J (Ac Z) J ?_|refine Ao J J J J J J J Z (Ac Z) J ?_)
   all_goals first
    |(refine BB (i+1) ⟨hlt,hst.trans (decide_eq_true O)⟩ O [] (Av J (by rw[LK hr]) (Av J J (Av J J (Av J (by rw[AW O O];rfl) AJ)))) J)
    |(refine AC J (Sub.of_eq ?_);rw[UY hbt (GQ (hst.trans (decide_eq_false O)))];rfl)
  ·repeat'(first|refine Ak Ab J J J J J ?_|refine Ap Ab J J J ?_|refine A0 ?_|refine A9 ?_|refine Aw Ab J J ?_|(refine A1 J J J J J (ht:=fun h=>?_) (hf:=fun h=>?_)<;>try exact prn)|(refine A2 J J J J J (ht:=fun h=>?_) (hf:=fun h=>?_)<;>try exact prn)|refine Ag J J J J J ?_|(refine Al J (ht:=fun h=>?_) (hf:=fun h=>?_)<;>try exact prn)|refine Au ?_|refine Aq ?_|refine Ar ?_|refine A3 ?_|refine Aj Ab J J J J J J J (Ac Z) J ?_|refine Ae Ab J J J J J J J Z (Ac Z) J ?_|refine Ah Ab J J J J J J J J J J J J J (by simp[Ad];omega) ?_|refine Af Ab J J J J J J J J J J J J J J (by simp[Ad];omega) ?_|refine A8 Ab J J J J J (fun _=>rfl) (fun b hb=>?_)|refine As J J J J ?_|refine A4 ?_|(refine A5 J J J J J (ht:=fun h=>?_) (hf:=fun h=>?_)<;>try exact prn)|(refine A6 J J J J J (ht:=fun h=>?_) (hf:=fun h=>?_)<;>try exact prn)|refine Ai J J J J J ?_|refine An J J J J J J J (Ac Z) J ?_|refine Ao J J J J J J J Z (Ac Z) J ?_)
   refine AC J (Sub.of_eq ?_)
   rw[XN hbt (by rw[List.take_of_length_le O]at hri;exact hri)]
 ·have hbad:=Ql hb
  rw[hbad]
  refine ct0 Ab Tryz.func57 J false J J ?_
  repeat'(first|refine Ak Ab J J J J J ?_|refine Ap Ab J J J ?_|refine A0 ?_|refine A9 ?_|refine Aw Ab J J ?_|(refine A1 J J J J J (ht:=fun h=>?_) (hf:=fun h=>?_)<;>try exact prn)|(refine A2 J J J J J (ht:=fun h=>?_) (hf:=fun h=>?_)<;>try exact prn)|refine Ag J J J J J ?_|(refine Al J (ht:=fun h=>?_) (hf:=fun h=>?_)<;>try exact prn)|refine Au ?_|refine Aq ?_|refine Ar ?_|refine A3 ?_|refine Aj Ab J J J J J J J (Ac Z) J ?_|refine Ae Ab J J J J J J J Z (Ac Z) J ?_|refine Ah Ab J J J J J J J J J J J J J (by simp[Ad];omega) ?_|refine Af Ab J J J J J J J J J J J J J J (by simp[Ad];omega) ?_|refine A8 Ab J J J J J (fun _=>rfl) (fun b hb=>?_)|refine As J J J J ?_|refine A4 ?_|(refine A5 J J J J J (ht:=fun h=>?_) (hf:=fun h=>?_)<;>try exact prn)|(refine A6 J J J J J (ht:=fun h=>?_) (hf:=fun h=>?_)<;>try exact prn)|refine Ai J J J J J ?_|refine An J J J J J J J (Ac Z) J ?_|refine Ao J J J J J J J Z (Ac Z) J ?_)
  all_goals first
   |exact AC J (Sub.of_eq J)
   |(exfalso;apply hb;rw[hlm]at*;rw[AW (n:=t.fin-t.start) O O,AW O O]at*;omega)
def tcE (t:Table):Int:=if Ck t=true then 0 else 2
theorem Sn (t:Table) (hl:t.new.length≤1000000000):Ct Tryz.prog 32 [.agg (AA (AN t))] [] (.t (.int .i64 (tcE t))) []:=by
 have c1:=ME t hl
 refine ct0 Ab Tryz.func32 J false J J ?_
 unfold tbT at c1
 unfold tcE
 by_cases h1:Ck t=true
 ·rw[if_pos h1]at c1⊢
  repeat'(first|refine Ak Ab J J J J J ?_|refine Ap Ab J J J ?_|refine A0 ?_|refine A9 ?_|refine Aw Ab J J ?_|(refine A1 J J J J J (ht:=fun h=>?_) (hf:=fun h=>?_)<;>try exact prn)|(refine A2 J J J J J (ht:=fun h=>?_) (hf:=fun h=>?_)<;>try exact prn)|refine Ag J J J J J ?_|(refine Al J (ht:=fun h=>?_) (hf:=fun h=>?_)<;>try exact prn)|refine Au ?_|refine Aq ?_|refine Ar ?_|refine A3 ?_|refine Aj Ab J J J J J J J (Ac Z) J ?_|refine Ae Ab J J J J J J J Z (Ac Z) J ?_|refine Ah Ab J J J J J J J J J J J J J (by simp[Ad];omega) ?_|refine Af Ab J J J J J J J J J J J J J J (by simp[Ad];omega) ?_|refine A8 Ab J J J J J (fun _=>rfl) (fun b hb=>?_)|refine As J J J J ?_|refine A4 ?_|(refine A5 J J J J J (ht:=fun h=>?_) (hf:=fun h=>?_)<;>try exact prn)|(refine A6 J J J J J (ht:=fun h=>?_) (hf:=fun h=>?_)<;>try exact prn)|refine Ai J J J J J ?_|refine An J J J J J J J (Ac Z) J ?_|refine Ao J J J J J J J Z (Ac Z) J ?_|refine A7 Ab J J J J J J J (c1) J J ?_|refine A7 Ab J J J J J J J (MD) J J ?_)
  exact AC J (Sub.of_eq J)
 ·rw[if_neg h1]at c1⊢
  split at c1
  all_goals
   repeat'(first|refine Ak Ab J J J J J ?_|refine Ap Ab J J J ?_|refine A0 ?_|refine A9 ?_|refine Aw Ab J J ?_|(refine A1 J J J J J (ht:=fun h=>?_) (hf:=fun h=>?_)<;>try exact prn)|(refine A2 J J J J J (ht:=fun h=>?_) (hf:=fun h=>?_)<;>try exact prn)|refine Ag J J J J J ?_|(refine Al J (ht:=fun h=>?_) (hf:=fun h=>?_)<;>try exact prn)|refine Au ?_|refine Aq ?_|refine Ar ?_|refine A3 ?_|refine Aj Ab J J J J J J J (Ac Z) J ?_|refine Ae Ab J J J J J J J Z (Ac Z) J ?_|refine Ah Ab J J J J J J J J J J J J J (by simp[Ad];omega) ?_|refine Af Ab J J J J J J J J J J J J J J (by simp[Ad];omega) ?_|refine A8 Ab J J J J J (fun _=>rfl) (fun b hb=>?_)|refine As J J J J ?_|refine A4 ?_|(refine A5 J J J J J (ht:=fun h=>?_) (hf:=fun h=>?_)<;>try exact prn)|(refine A6 J J J J J (ht:=fun h=>?_) (hf:=fun h=>?_)<;>try exact prn)|refine Ai J J J J J ?_|refine An J J J J J J J (Ac Z) J ?_|refine Ao J J J J J J J Z (Ac Z) J ?_|refine A7 Ab J J J J J J J (c1) J J ?_|refine A7 Ab J J J J J J J (Ot _ _) J J ?_)
   exact AC J (Sub.of_eq J)
theorem Tx {t:Table} {n:Int} (h:Ck t=true) (h1: -1<n) (h2:n≤t.fin): ∃k:Nat,(if n-t.start<0 then 0 else n-t.start)=(k:Int)∧ ∃m,t.new[k]?=some m∧toN t n=m:=by
 have hf:=GH h
 refine⟨(if n-t.start<0 then 0 else n-t.start).toNat,?_,?_⟩
 ·split<;>omega
 ·have hlt:(if n-t.start<0 then 0 else n-t.start).toNat<t.new.length:=by split<;>omega
  have hg:=List.getElem?_eq_getElem hlt
  refine⟨_,hg,?_⟩
  unfold toN
  rw[h,if_neg Y,if_neg O,if_neg O,hg];rfl
def toT (t:Table) (n:Int):T:=if Ck t=false then tbT t else if n< -1∨(n≠ -1∧t.fin<n)then Fj 119 [97,110,32,111,108,100,32,111,102,102,115,101,116] 130 else .nilIface
theorem Yp (a:Int):OQ a 0=if a<0 then 0 else a:=rfl
theorem Yo (a:Int):OQ 0 a=if a<0 then 0 else a:=by unfold OQ;split<;>split<;>omega
theorem Y9 (t:Table) (n:Int) (hl:t.new.length≤1000000000) (hn: -9223372036854775808≤n∧n≤9223372036854775807):Ct Tryz.prog 34 [.agg (AA (AN t)),.t (.int .i64 n)] [] (.tuple [.t (.int .i64 (toN t n)),.t (toT t n)]) []:=by
 have c1:=ME t hl
 by_cases h1:Ck t=true
 ·have hf:=GH h1
  have e1:tbT t=.nilIface:=by simp[tbT,h1]
  rw[e1]at c1
  have hnf: ¬(Ck t=false):=by simp[h1]
  by_cases h2:n= -1
  ·subst h2
   rw[show toN t (-1)= -1 by simp[toN,h1],show toT t (-1)=.nilIface by simp[toT,h1]]
   refine ct0 Ab Tryz.func34 J false J J ?_
   repeat'(first|refine Ak Ab J J J J J ?_|refine Ap Ab J J J ?_|refine A0 ?_|refine A9 ?_|refine Aw Ab J J ?_|(refine A1 J J J J J (ht:=fun h=>?_) (hf:=fun h=>?_)<;>try exact prn)|(refine A2 J J J J J (ht:=fun h=>?_) (hf:=fun h=>?_)<;>try exact prn)|refine Ag J J J J J ?_|(refine Al J (ht:=fun h=>?_) (hf:=fun h=>?_)<;>try exact prn)|refine Au ?_|refine Aq ?_|refine Ar ?_|refine A3 ?_|refine Aj Ab J J J J J J J (Ac Z) J ?_|refine Ae Ab J J J J J J J Z (Ac Z) J ?_|refine Ah Ab J J J J J J J J J J J J J (by simp[Ad];omega) ?_|refine Af Ab J J J J J J J J J J J J J J (by simp[Ad];omega) ?_|refine A8 Ab J J J J J (fun _=>rfl) (fun b hb=>?_)|refine As J J J J ?_|refine A4 ?_|(refine A5 J J J J J (ht:=fun h=>?_) (hf:=fun h=>?_)<;>try exact prn)|(refine A6 J J J J J (ht:=fun h=>?_) (hf:=fun h=>?_)<;>try exact prn)|refine Ai J J J J J ?_|refine An J J J J J J J (Ac Z) J ?_|refine Ao J J J J J J J Z (Ac Z) J ?_|refine A7 Ab J J J J J J J (c1) J J ?_)
   exact AC J (Sub.of_eq J)
  by_cases h3:n< -1∨t.fin<n
  ·rw[show toN t n=0 by unfold toN;rw[if_neg hnf,if_neg h2,if_pos h3],show toT t n=Fj 119 [97,110,32,111,108,100,32,111,102,102,115,101,116] 130 by unfold toT;rw[if_neg hnf,if_pos O]]
   refine ct0 Ab Tryz.func34 J false J J ?_
   repeat'(first|refine Ak Ab J J J J J ?_|refine Ap Ab J J J ?_|refine A0 ?_|refine A9 ?_|refine Aw Ab J J ?_|(refine A1 J J J J J (ht:=fun h=>?_) (hf:=fun h=>?_)<;>try exact prn)|(refine A2 J J J J J (ht:=fun h=>?_) (hf:=fun h=>?_)<;>try exact prn)|refine Ag J J J J J ?_|(refine Al J (ht:=fun h=>?_) (hf:=fun h=>?_)<;>try exact prn)|refine Au ?_|refine Aq ?_|refine Ar ?_|refine A3 ?_|refine Aj Ab J J J J J J J (Ac Z) J ?_|refine Ae Ab J J J J J J J Z (Ac Z) J ?_|refine Ah Ab J J J J J J J J J J J J J (by simp[Ad];omega) ?_|refine Af Ab J J J J J J J J J J J J J J (by simp[Ad];omega) ?_|refine A8 Ab J J J J J (fun _=>rfl) (fun b hb=>?_)|refine As J J J J ?_|refine A4 ?_|(refine A5 J J J J J (ht:=fun h=>?_) (hf:=fun h=>?_)<;>try exact prn)|(refine A6 J J J J J (ht:=fun h=>?_) (hf:=fun h=>?_)<;>try exact prn)|refine Ai J J J J J ?_|refine An J J J J J J J (Ac Z) J ?_|refine Ao J J J J J J J Z (Ac Z) J ?_|refine A7 Ab J J J J J J J (c1) J J ?_)
   all_goals first
    |exact AC J (Sub.of_eq J)
    |(exfalso;omega)
  ·obtain⟨k,hk,m,hm,e⟩:=Tx (n:=n) h1 O O
   rw[e,show toT t n=.nilIface by unfold toT;rw[if_neg hnf,if_neg O]]
   have hw:OQ (IntKind.i64.wrap (n-t.start)) 0=(k:Int):=by rw[AW O O,Yp,hk]
   refine ct0 Ab Tryz.func34 J false J J ?_
   repeat'(first|refine Ak Ab J J J J J ?_|refine Ap Ab J J J ?_|refine A0 ?_|refine A9 ?_|refine Aw Ab J J ?_|(refine A1 J J J J J (ht:=fun h=>?_) (hf:=fun h=>?_)<;>try exact prn)|(refine A2 J J J J J (ht:=fun h=>?_) (hf:=fun h=>?_)<;>try exact prn)|refine Ag J J J J J ?_|(refine Al J (ht:=fun h=>?_) (hf:=fun h=>?_)<;>try exact prn)|refine Au ?_|refine Aq ?_|refine Ar ?_|refine A3 ?_|refine Aj Ab J J J J J J J (Ac Z) J ?_|refine Ae Ab J J J J J J J Z (Ac Z) J ?_|refine Ah Ab J J J J J J J J J J J J J (by simp[Ad];omega) ?_|refine Af Ab J J J J J J J J J J J J J J (by simp[Ad];omega) ?_|refine A8 Ab J J J J J (fun _=>rfl) (fun b hb=>?_)|refine As J J J J ?_|refine A4 ?_|(refine A5 J J J J J (ht:=fun h=>?_) (hf:=fun h=>?_)<;>try exact prn)|(refine A6 J J J J J (ht:=fun h=>?_) (hf:=fun h=>?_)<;>try exact prn)|refine Ai J J J J J ?_|refine An J J J J J J J (Ac Z) J ?_|refine Ao J J J J J J J Z (Ac Z) J ?_|refine A7 Ab J J J J J J J (c1) J J ?_|refine Ae Ab J J J J J J J hw (Ac hm) J ?_)
   all_goals first
    |exact AC J (Sub.of_eq J)
    |(exfalso;omega)
 ·have h1':Ck t=false:=by simpa using h1
  rw[show toN t n=0 by simp[toN,h1'],show toT t n=tbT t by simp[toT,h1']]
  have e1: ∃s,tbT t=Fj 119 s 2:=by unfold tbT;rw[if_neg h1];split<;>exact⟨_,J⟩
  obtain⟨s,e1⟩:=e1
  rw[e1]at c1⊢
  refine ct0 Ab Tryz.func34 J false J J ?_
  repeat'(first|refine Ak Ab J J J J J ?_|refine Ap Ab J J J ?_|refine A0 ?_|refine A9 ?_|refine Aw Ab J J ?_|(refine A1 J J J J J (ht:=fun h=>?_) (hf:=fun h=>?_)<;>try exact prn)|(refine A2 J J J J J (ht:=fun h=>?_) (hf:=fun h=>?_)<;>try exact prn)|refine Ag J J J J J ?_|(refine Al J (ht:=fun h=>?_) (hf:=fun h=>?_)<;>try exact prn)|refine Au ?_|refine Aq ?_|refine Ar ?_|refine A3 ?_|refine Aj Ab J J J J J J J (Ac Z) J ?_|refine Ae Ab J J J J J J J Z (Ac Z) J ?_|refine Ah Ab J J J J J J J J J J J J J (by simp[Ad];omega) ?_|refine Af Ab J J J J J J J J J J J J J J (by simp[Ad];omega) ?_|refine A8 Ab J J J J J (fun _=>rfl) (fun b hb=>?_)|refine As J J J J ?_|refine A4 ?_|(refine A5 J J J J J (ht:=fun h=>?_) (hf:=fun h=>?_)<;>try exact prn)|(refine A6 J J J J J (ht:=fun h=>?_) (hf:=fun h=>?_)<;>try exact prn)|refine Ai J J J J J ?_|refine An J J J J J J J (Ac Z) J ?_|refine Ao J J J J J J J Z (Ac Z) J ?_|refine A7 Ab J J J J J J J (c1) J J ?_)
  exact AC J (Sub.of_eq J)
theorem Qm (t:Table) (n:Int) (hl:t.new.length≤1000000000) (hn: -9223372036854775808≤n∧n≤9223372036854775807):Ct Tryz.prog 21 [.agg (AA (AN t)),.t (.int .i64 n)] [] (.tuple [.t (.int .i64 (toN t n)),.t (.int .i64 (toE t n))]) []:=by
 have c1:=Y9 t n hl hn
 have hc:(toT t n=.nilIface∧toE t n=0)∨ ∃s,toT t n=Fj 119 s (toE t n):=by
  unfold toT toE
  by_cases h1:Ck t=false
  ·rw[if_pos h1,if_pos h1];right;unfold tbT;rw[if_neg (by simp[h1])];split<;>exact⟨_,J⟩
  ·rw[if_neg h1,if_neg h1]
   by_cases h2:n< -1∨(n≠ -1∧t.fin<n)
   ·rw[if_pos h2,if_pos h2];exact .inr ⟨_,J⟩
   ·rw[if_neg h2,if_neg h2];exact .inl ⟨J,J⟩
 refine ct0 Ab Tryz.func21 J false J J ?_
 rcases hc with⟨e1,e2⟩|⟨s,e1⟩
 ·rw[e1]at c1;rw[e2]
  repeat'(first|refine Ak Ab J J J J J ?_|refine Ap Ab J J J ?_|refine A0 ?_|refine A9 ?_|refine Aw Ab J J ?_|(refine A1 J J J J J (ht:=fun h=>?_) (hf:=fun h=>?_)<;>try exact prn)|(refine A2 J J J J J (ht:=fun h=>?_) (hf:=fun h=>?_)<;>try exact prn)|refine Ag J J J J J ?_|(refine Al J (ht:=fun h=>?_) (hf:=fun h=>?_)<;>try exact prn)|refine Au ?_|refine Aq ?_|refine Ar ?_|refine A3 ?_|refine Aj Ab J J J J J J J (Ac Z) J ?_|refine Ae Ab J J J J J J J Z (Ac Z) J ?_|refine Ah Ab J J J J J J J J J J J J J (by simp[Ad];omega) ?_|refine Af Ab J J J J J J J J J J J J J J (by simp[Ad];omega) ?_|refine A8 Ab J J J J J (fun _=>rfl) (fun b hb=>?_)|refine As J J J J ?_|refine A4 ?_|(refine A5 J J J J J (ht:=fun h=>?_) (hf:=fun h=>?_)<;>try exact prn)|(refine A6 J J J J J (ht:=fun h=>?_) (hf:=fun h=>?_)<;>try exact prn)|refine Ai J J J J J ?_|refine An J J J J J J J (Ac Z) J ?_|refine Ao J J J J J J J Z (Ac Z) J ?_|refine A7 Ab J J J J J J J (c1) J J ?_|refine A7 Ab J J J J J J J (MD) J J ?_)
  exact AC J (Sub.of_eq J)
 ·rw[e1]at c1
  repeat'(first|refine Ak Ab J J J J J ?_|refine Ap Ab J J J ?_|refine A0 ?_|refine A9 ?_|refine Aw Ab J J ?_|(refine A1 J J J J J (ht:=fun h=>?_) (hf:=fun h=>?_)<;>try exact prn)|(refine A2 J J J J J (ht:=fun h=>?_) (hf:=fun h=>?_)<;>try exact prn)|refine Ag J J J J J ?_|(refine Al J (ht:=fun h=>?_) (hf:=fun h=>?_)<;>try exact prn)|refine Au ?_|refine Aq ?_|refine Ar ?_|refine A3 ?_|refine Aj Ab J J J J J J J (Ac Z) J ?_|refine Ae Ab J J J J J J J Z (Ac Z) J ?_|refine Ah Ab J J J J J J J J J J J J J (by simp[Ad];omega) ?_|refine Af Ab J J J J J J J J J J J J J J (by simp[Ad];omega) ?_|refine A8 Ab J J J J J (fun _=>rfl) (fun b hb=>?_)|refine As J J J J ?_|refine A4 ?_|(refine A5 J J J J J (ht:=fun h=>?_) (hf:=fun h=>?_)<;>try exact prn)|(refine A6 J J J J J (ht:=fun h=>?_) (hf:=fun h=>?_)<;>try exact prn)|refine Ai J J J J J ?_|refine An J J J J J J J (Ac Z) J ?_|refine Ao J J J J J J J Z (Ac Z) J ?_|refine A7 Ab J J J J J J J (c1) J J ?_|refine A7 Ab J J J J J J J (Ot _ _) J J ?_)
  exact AC J (Sub.of_eq J)
theorem OD (l:List Table) (hl:l.length≤1000000000) (hs: ∀t∈l,t.new.length≤1000000000):Ct Tryz.prog 19 [.t (.slice .any 3 (l.map AN))] [] (.t (.bool (Bq l))) []:=by
 have hlm:(l.map AN).length=l.length:=List.length_map ..
 refine ct0 Ab Tryz.func19 J false J J ?_
 repeat'(first|refine Ak Ab J J J J J ?_|refine Ap Ab J J J ?_|refine A0 ?_|refine A9 ?_|refine Aw Ab J J ?_|(refine A1 J J J J J (ht:=fun h=>?_) (hf:=fun h=>?_)<;>try exact prn)|(refine A2 J J J J J (ht:=fun h=>?_) (hf:=fun h=>?_)<;>try exact prn)|refine Ag J J J J J ?_|(refine Al J (ht:=fun h=>?_) (hf:=fun h=>?_)<;>try exact prn)|refine Au ?_|refine Aq ?_|refine Ar ?_|refine A3 ?_|refine Aj Ab J J J J J J J (Ac Z) J ?_|refine Ae Ab J J J J J J J Z (Ac Z) J ?_|refine Ah Ab J J J J J J J J J J J J J (by simp[Ad];omega) ?_|refine Af Ab J J J J J J J J J J J J J J (by simp[Ad];omega) ?_|refine A8 Ab J J J J J (fun _=>rfl) (fun b hb=>?_)|refine As J J J J ?_|refine A4 ?_|(refine A5 J J J J J (ht:=fun h=>?_) (hf:=fun h=>?_)<;>try exact prn)|(refine A6 J J J J J (ht:=fun h=>?_) (hf:=fun h=>?_)<;>try exact prn)|refine Ai J J J J J ?_|refine An J J J J J J J (Ac Z) J ?_|refine Ao J J J J J J J Z (Ac Z) J ?_)
 ·refine AC J (BN ?_);rw[hlm]at h;simp[Bq];intro;omega
 refine BC (ι:=Nat) (fun i=>i≤l.length∧(l.take i).all Ck=true) (fun i=>[(8,.t (.slice .any 3 (l.map AN))),(9,.t (.int .i64 ((l.map AN).length:Int))),(10,.t (.int .i64 i))]) (fun _=>[]) (fun i=>l.length-i) 0 Y ?_ ?_
 ·exact Ce [] (Av J J (Av J J (Av J J AJ))) J
 rintro i ⟨hi,hall⟩
 by_cases hlt:i<l.length
 ·have hr:l[i]?=some l[i]:=List.getElem?_eq_getElem hlt
  have hsr:=hs l[i] (List.getElem_mem hlt)
  generalize l[i]=t at hr hsr
  have c1:=Sn t hsr
  unfold tcE at c1
  by_cases ht:Ck t=true
  ·rw[if_pos ht]at c1
   repeat'(first|refine Ak Ab J J J J J ?_|refine Ap Ab J J J ?_|refine A0 ?_|refine A9 ?_|refine Aw Ab J J ?_|(refine A1 J J J J J (ht:=fun h=>?_) (hf:=fun h=>?_)<;>try exact prn)|(refine A2 J J J J J (ht:=fun h=>?_) (hf:=fun h=>?_)<;>try exact prn)|refine Ag J J J J J ?_|(refine Al J (ht:=fun h=>?_) (hf:=fun h=>?_)<;>try exact prn)|refine Au ?_|refine Aq ?_|refine Ar ?_|refine A3 ?_|refine Aj Ab J J J J J J J (Ac Z) J ?_|refine Ae Ab J J J J J J J Z (Ac Z) J ?_|refine Ah Ab J J J J J J J J J J J J J (by simp[Ad];omega) ?_|refine Af Ab J J J J J J J J J J J J J J (by simp[Ad];omega) ?_|refine A8 Ab J J J J J (fun _=>rfl) (fun b hb=>?_)|refine As J J J J ?_|refine A4 ?_|(refine A5 J J J J J (ht:=fun h=>?_) (hf:=fun h=>?_)<;>try exact prn)|(refine A6 J J J J J (ht:=fun h=>?_) (hf:=fun h=>?_)<;>try exact prn)|refine Ai J J J J J ?_|refine An J J J J J J J (Ac Z) J ?_|refine Ao J J J J J J J Z (Ac Z) J ?_|refine A7 Ab J J J J J J J (c1) J J ?_)
   refine BB (i+1) ⟨hlt,by rw[BK hr,List.all_append,hall];simp[ht]⟩ O [4] (Av J J (Av J J (Av J (by rw[AW O O];rfl) AJ))) J
  ·rw[if_neg ht]at c1
   repeat'(first|refine Ak Ab J J J J J ?_|refine Ap Ab J J J ?_|refine A0 ?_|refine A9 ?_|refine Aw Ab J J ?_|(refine A1 J J J J J (ht:=fun h=>?_) (hf:=fun h=>?_)<;>try exact prn)|(refine A2 J J J J J (ht:=fun h=>?_) (hf:=fun h=>?_)<;>try exact prn)|refine Ag J J J J J ?_|(refine Al J (ht:=fun h=>?_) (hf:=fun h=>?_)<;>try exact prn)|refine Au ?_|refine Aq ?_|refine Ar ?_|refine A3 ?_|refine Aj Ab J J J J J J J (Ac Z) J ?_|refine Ae Ab J J J J J J J Z (Ac Z) J ?_|refine Ah Ab J J J J J J J J J J J J J (by simp[Ad];omega) ?_|refine Af Ab J J J J J J J J J J J J J J (by simp[Ad];omega) ?_|refine A8 Ab J J J J J (fun _=>rfl) (fun b hb=>?_)|refine As J J J J ?_|refine A4 ?_|(refine A5 J J J J J (ht:=fun h=>?_) (hf:=fun h=>?_)<;>try exact prn)|(refine A6 J J J J J (ht:=fun h=>?_) (hf:=fun h=>?_)<;>try exact prn)|refine Ai J J J J J ?_|refine An J J J J J J J (Ac Z) J ?_|refine Ao J J J J J J J Z (Ac Z) J ?_|refine A7 Ab J J J J J J J (c1) J J ?_)
   refine AC J (BN ?_)
   have hm:t∈l:=List.mem_of_getElem? hr
   symm;rw[Bq,Bool.and_eq_false_iff];right
   rw[List.all_eq_false];exact⟨t,hm,ht⟩
 ·repeat'(first|refine Ak Ab J J J J J ?_|refine Ap Ab J J J ?_|refine A0 ?_|refine A9 ?_|refine Aw Ab J J ?_|(refine A1 J J J J J (ht:=fun h=>?_) (hf:=fun h=>?_)<;>try exact prn)|(refine A2 J J J J J (ht:=fun h=>?_) (hf:=fun h=>?_)<;>try exact prn)|refine Ag J J J J J ?_|(refine Al J (ht:=fun h=>?_) (hf:=fun h=>?_)<;>try exact prn)|refine Au ?_|refine Aq ?_|refine Ar ?_|refine A3 ?_|refine Aj Ab J J J J J J J (Ac Z) J ?_|refine Ae Ab J J J J J J J Z (Ac Z) J ?_|refine Ah Ab J J J J J J J J J J J J J (by simp[Ad];omega) ?_|refine Af Ab J J J J J J J J J J J J J J (by simp[Ad];omega) ?_|refine A8 Ab J J J J J (fun _=>rfl) (fun b hb=>?_)|refine As J J J J ?_|refine A4 ?_|(refine A5 J J J J J (ht:=fun h=>?_) (hf:=fun h=>?_)<;>try exact prn)|(refine A6 J J J J J (ht:=fun h=>?_) (hf:=fun h=>?_)<;>try exact prn)|refine Ai J J J J J ?_|refine An J J J J J J J (Ac Z) J ?_|refine Ao J J J J J J J Z (Ac Z) J ?_)
  refine AC J (BN ?_)
  rw[List.take_of_length_le O]at hall
  rw[hlm]at h
  simp[Bq,hall];omega
theorem Lo (t:Table) (hl:t.new.length≤1000000000):Ct Tryz.prog 38 [.agg (AA (AN t))] [] (.t (.int .i64 (tcE t))) []:=by
 have hlm:(t.new.map QV).length=t.new.length:=List.length_map ..
 by_cases hb:(0≤t.start∧t.start≤t.fin∧t.fin≤1048576)∧(t.new.length:Int)=t.fin-t.start+1
 ·obtain⟨⟨hb1,hb2,hb3⟩,hb4⟩:=hb
  have hbt:F5 t=true:=decide_eq_true ⟨⟨hb1,hb2,hb3⟩,hb4⟩
  have hw:IntKind.i64.wrap (IntKind.i64.wrap (t.fin-t.start)+1)=t.fin-t.start+1:=by rw[AW (n:=t.fin-t.start) O O,AW O O]
  refine ct0 Ab Tryz.func38 J false J J ?_
  repeat'(first|refine Ak Ab J J J J J ?_|refine Ap Ab J J J ?_|refine A0 ?_|refine A9 ?_|refine Aw Ab J J ?_|(refine A1 J J J J J (ht:=fun h=>?_) (hf:=fun h=>?_)<;>try exact prn)|(refine A2 J J J J J (ht:=fun h=>?_) (hf:=fun h=>?_)<;>try exact prn)|refine Ag J J J J J ?_|(refine Al J (ht:=fun h=>?_) (hf:=fun h=>?_)<;>try exact prn)|refine Au ?_|refine Aq ?_|refine Ar ?_|refine A3 ?_|refine Aj Ab J J J J J J J (Ac Z) J ?_|refine Ae Ab J J J J J J J Z (Ac Z) J ?_|refine Ah Ab J J J J J J J J J J J J J (by simp[Ad];omega) ?_|refine Af Ab J J J J J J J J J J J J J J (by simp[Ad];omega) ?_|refine A8 Ab J J J J J (fun _=>rfl) (fun b hb=>?_)|refine AD (id:=6) (m:=29) Ab U J J J J ?_|refine As J J J J ?_|refine A4 ?_|(refine A5 J J J J J (ht:=fun h=>?_) (hf:=fun h=>?_)<;>try exact prn)|(refine A6 J J J J J (ht:=fun h=>?_) (hf:=fun h=>?_)<;>try exact prn)|refine Ai J J J J J ?_|refine An J J J J J J J (Ac Z) J ?_|refine Ao J J J J J J J Z (Ac Z) J ?_)
  all_goals try(exfalso;(try rw[hw]at*);(try rw[hlm]at*);omega)
  refine BC (ι:=Nat) (fun i=>i≤t.new.length∧CF 0 (t.new.take i)=true) (fun i=>[(1,.ref 2 0),(3,.t (.int .i64 i))]) (fun _=>[(2,.cells (AA (AN t)))]) (fun i=>t.new.length-i) 0 ⟨by simp,by simp[CF]⟩ ?_ ?_
  ·exact Ce [] (Av J J (Av J J AJ)) J
  rintro i ⟨hi,hri⟩
  by_cases hlt:i<t.new.length
  ·have hr:t.new[i]?=some t.new[i]:=List.getElem?_eq_getElem hlt
   generalize t.new[i]=n at hr
   have hst:=Kq hr
   rw[hri,Bool.true_and]at hst
   by_cases h0:i=0
   ·subst h0
    simp only[List.take_zero,GB]at hst
    repeat'(first|refine Ak Ab J J J J J ?_|refine Ap Ab J J J ?_|refine A0 ?_|refine A9 ?_|refine Aw Ab J J ?_|(refine A1 J J J J J (ht:=fun h=>?_) (hf:=fun h=>?_)<;>try exact prn)|(refine A2 J J J J J (ht:=fun h=>?_) (hf:=fun h=>?_)<;>try exact prn)|refine Ag J J J J J ?_|(refine Al J (ht:=fun h=>?_) (hf:=fun h=>?_)<;>try exact prn)|refine Au ?_|refine Aq ?_|refine Ar ?_|refine A3 ?_|refine Aj Ab J J J J J J J (Ac Z) J ?_|refine Ae Ab J J J J J J J Z (Ac Z) J ?_|refine Ah Ab J J J J J J J J J J J J J (by simp[Ad];omega) ?_|refine Af Ab J J J J J J J J J J J J J J (by simp[Ad];omega) ?_|refine A8 Ab J J J J J (fun _=>rfl) (fun b hb=>?_)|refine AD (id:=6) (m:=29) Ab U J J J J ?_|refine As J J J J ?_|refine A4 ?_|(refine A5 J J J J J (ht:=fun h=>?_) (hf:=fun h=>?_)<;>try exact prn)|(refine A6 J J J J J (ht:=fun h=>?_) (hf:=fun h=>?_)<;>try exact prn)|refine Ai J J J J J ?_|refine An J J J J J J J (Ac Z) J ?_|refine Ao J J J J J J J Z (Ac Z) J ?_)
    all_goals try(exfalso;omega)
    all_goals first
     |(refine BB 1 ⟨hlt,hst.trans (decide_eq_true O)⟩ O [] (Av J J (Av J (by rw[AW O O];rfl) AJ)) J)
     |(refine AC J (Sub.of_eq ?_);rw[tcE,if_neg (by rw[Dg,hbt,GQ (hst.trans (decide_eq_false O))];simp)])
   ·have hs:t.new[i-1]?=some (t.new[i-1]' O):=List.getElem?_eq_getElem _
    generalize t.new[i-1]' O=m at hs
    have hlast:GB 0 (t.new.take i)=m:=by have:=LK hs;rwa[show i-1+1=i by omega]at this
    have hlo:=MU 0 _ hri
    rw[hlast]at hst hlo
    have hw:IntKind.i64.wrap ((i:Int)-1)=((i-1:Nat):Int):=by rw[AW O O];omega
    repeat'(first|refine Ak Ab J J J J J ?_|refine Ap Ab J J J ?_|refine A0 ?_|refine A9 ?_|refine Aw Ab J J ?_|(refine A1 J J J J J (ht:=fun h=>?_) (hf:=fun h=>?_)<;>try exact prn)|(refine A2 J J J J J (ht:=fun h=>?_) (hf:=fun h=>?_)<;>try exact prn)|refine Ag J J J J J ?_|(refine Al J (ht:=fun h=>?_) (hf:=fun h=>?_)<;>try exact prn)|refine Au ?_|refine Aq ?_|refine Ar ?_|refine A3 ?_|refine Aj Ab J J J J J J J (Ac Z) J ?_|refine Ae Ab J J J J J J J Z (Ac Z) J ?_|refine Ah Ab J J J J J J J J J J J J J (by simp[Ad];omega) ?_|refine Af Ab J J J J J J J J J J J J J J (by simp[Ad];omega) ?_|refine A8 Ab J J J J J (fun _=>rfl) (fun b hb=>?_)|refine AD (id:=6) (m:=29) Ab U J J J J ?_|refine As J J J J ?_|refine A4 ?_|(refine A5 J J J J J (ht:=fun h=>?_) (hf:=fun h=>?_)<;>try exact prn)|(refine A6 J J J J J (ht:=fun h=>?_) (hf:=fun h=>?_)<;>try exact prn)|refine Ai J J J J J ?_|refine An J J J J J J J (Ac Z) J ?_|refine Ao J J J J J J J Z (Ac Z) J ?_)
    all_goals try(exfalso;omega)
    all_goals first
     |(refine BB (i+1) ⟨hlt,hst.trans (decide_eq_true O)⟩ O [] (Av J J (Av J (by rw[AW O O];rfl) AJ)) J)
     |(refine AC J (Sub.of_eq ?_);rw[tcE,if_neg (by rw[Dg,hbt,GQ (hst.trans (decide_eq_false O))];simp)])
  ·repeat'(first|refine Ak Ab J J J J J ?_|refine Ap Ab J J J ?_|refine A0 ?_|refine A9 ?_|refine Aw Ab J J ?_|(refine A1 J J J J J (ht:=fun h=>?_) (hf:=fun h=>?_)<;>try exact prn)|(refine A2 J J J J J (ht:=fun h=>?_) (hf:=fun h=>?_)<;>try exact prn)|refine Ag J J J J J ?_|(refine Al J (ht:=fun h=>?_) (hf:=fun h=>?_)<;>try exact prn)|refine Au ?_|refine Aq ?_|refine Ar ?_|refine A3 ?_|refine Aj Ab J J J J J J J (Ac Z) J ?_|refine Ae Ab J J J J J J J Z (Ac Z) J ?_|refine Ah Ab J J J J J J J J J J J J J (by simp[Ad];omega) ?_|refine Af Ab J J J J J J J J J J J J J J (by simp[Ad];omega) ?_|refine A8 Ab J J J J J (fun _=>rfl) (fun b hb=>?_)|refine AD (id:=6) (m:=29) Ab U J J J J ?_|refine As J J J J ?_|refine A4 ?_|(refine A5 J J J J J (ht:=fun h=>?_) (hf:=fun h=>?_)<;>try exact prn)|(refine A6 J J J J J (ht:=fun h=>?_) (hf:=fun h=>?_)<;>try exact prn)|refine Ai J J J J J ?_|refine An J J J J J J J (Ac Z) J ?_|refine Ao J J J J J J J Z (Ac Z) J ?_)
   refine AC J (Sub.of_eq ?_)
   rw[tcE,if_pos (by rw[Dg,hbt];rw[List.take_of_length_le O]at hri;exact hri)]
 ·have hbt:F5 t=false:=decide_eq_false hb
  rw[show tcE t=2 by simp[tcE,Dg,hbt]]
  refine ct0 Ab Tryz.func38 J false J J ?_
  repeat'(first|refine Ak Ab J J J J J ?_|refine Ap Ab J J J ?_|refine A0 ?_|refine A9 ?_|refine Aw Ab J J ?_|(refine A1 J J J J J (ht:=fun h=>?_) (hf:=fun h=>?_)<;>try exact prn)|(refine A2 J J J J J (ht:=fun h=>?_) (hf:=fun h=>?_)<;>try exact prn)|refine Ag J J J J J ?_|(refine Al J (ht:=fun h=>?_) (hf:=fun h=>?_)<;>try exact prn)|refine Au ?_|refine Aq ?_|refine Ar ?_|refine A3 ?_|refine Aj Ab J J J J J J J (Ac Z) J ?_|refine Ae Ab J J J J J J J Z (Ac Z) J ?_|refine Ah Ab J J J J J J J J J J J J J (by simp[Ad];omega) ?_|refine Af Ab J J J J J J J J J J J J J J (by simp[Ad];omega) ?_|refine A8 Ab J J J J J (fun _=>rfl) (fun b hb=>?_)|refine AD (id:=6) (m:=29) Ab U J J J J ?_|refine As J J J J ?_|refine A4 ?_|(refine A5 J J J J J (ht:=fun h=>?_) (hf:=fun h=>?_)<;>try exact prn)|(refine A6 J J J J J (ht:=fun h=>?_) (hf:=fun h=>?_)<;>try exact prn)|refine Ai J J J J J ?_|refine An J J J J J J J (Ac Z) J ?_|refine Ao J J J J J J J Z (Ac Z) J ?_)
  all_goals first
   |exact AC J (Sub.of_eq J)
   |(exfalso;apply hb;rw[hlm]at*;rw[AW (n:=t.fin-t.start) O O,AW O O]at*;omega)
theorem IR (t:Table) (n:Int) (hl:t.new.length≤1000000000) (hn: -9223372036854775808≤n∧n≤9223372036854775807):Ct Tryz.prog 24 [.agg (AA (AN t)),.t (.int .i64 n)] [] (.tuple [.t (.int .i64 (toN t n)),.t (.int .i64 (toE t n))]) []:=by
 have c1:=Lo t hl
 unfold tcE at c1
 by_cases h1:Ck t=true
 ·have hf:=GH h1
  rw[if_pos h1]at c1
  have hnf: ¬(Ck t=false):=by simp[h1]
  by_cases h2:n= -1
  ·subst h2
   rw[show toN t (-1)= -1 by simp[toN,h1],show toE t (-1)=0 by simp[toE,h1]]
   refine ct0 Ab Tryz.func24 J false J J ?_
   repeat'(first|refine Ak Ab J J J J J ?_|refine Ap Ab J J J ?_|refine A0 ?_|refine A9 ?_|refine Aw Ab J J ?_|(refine A1 J J J J J (ht:=fun h=>?_) (hf:=fun h=>?_)<;>try exact prn)|(refine A2 J J J J J (ht:=fun h=>?_) (hf:=fun h=>?_)<;>try exact prn)|refine Ag J J J J J ?_|(refine Al J (ht:=fun h=>?_) (hf:=fun h=>?_)<;>try exact prn)|refine Au ?_|refine Aq ?_|refine Ar ?_|refine A3 ?_|refine Aj Ab J J J J J J J (Ac Z) J ?_|refine Ae Ab J J J J J J J Z (Ac Z) J ?_|refine Ah Ab J J J J J J J J J J J J J (by simp[Ad];omega) ?_|refine Af Ab J J J J J J J J J J J J J J (by simp[Ad];omega) ?_|refine A8 Ab J J J J J (fun _=>rfl) (fun b hb=>?_)|refine As J J J J ?_|refine A4 ?_|(refine A5 J J J J J (ht:=fun h=>?_) (hf:=fun h=>?_)<;>try exact prn)|(refine A6 J J J J J (ht:=fun h=>?_) (hf:=fun h=>?_)<;>try exact prn)|refine Ai J J J J J ?_|refine An J J J J J J J (Ac Z) J ?_|refine Ao J J J J J J J Z (Ac Z) J ?_|refine A7 Ab J J J J J J J (c1) J J ?_)
   exact AC J (Sub.of_eq J)
  by_cases h3:n< -1∨t.fin<n
  ·rw[show toN t n=0 by unfold toN;rw[if_neg hnf,if_neg h2,if_pos h3],show toE t n=130 by unfold toE;rw[if_neg hnf,if_pos O]]
   refine ct0 Ab Tryz.func24 J false J J ?_
   repeat'(first|refine Ak Ab J J J J J ?_|refine Ap Ab J J J ?_|refine A0 ?_|refine A9 ?_|refine Aw Ab J J ?_|(refine A1 J J J J J (ht:=fun h=>?_) (hf:=fun h=>?_)<;>try exact prn)|(refine A2 J J J J J (ht:=fun h=>?_) (hf:=fun h=>?_)<;>try exact prn)|refine Ag J J J J J ?_|(refine Al J (ht:=fun h=>?_) (hf:=fun h=>?_)<;>try exact prn)|refine Au ?_|refine Aq ?_|refine Ar ?_|refine A3 ?_|refine Aj Ab J J J J J J J (Ac Z) J ?_|refine Ae Ab J J J J J J J Z (Ac Z) J ?_|refine Ah Ab J J J J J J J J J J J J J (by simp[Ad];omega) ?_|refine Af Ab J J J J J J J J J J J J J J (by simp[Ad];omega) ?_|refine A8 Ab J J J J J (fun _=>rfl) (fun b hb=>?_)|refine As J J J J ?_|refine A4 ?_|(refine A5 J J J J J (ht:=fun h=>?_) (hf:=fun h=>?_)<;>try exact prn)|(refine A6 J J J J J (ht:=fun h=>?_) (hf:=fun h=>?_)<;>try exact prn)|refine Ai J J J J J ?_|refine An J J J J J J J (Ac Z) J ?_|refine Ao J J J J J J J Z (Ac Z) J ?_|refine A7 Ab J J J J J J J (c1) J J ?_)
   all_goals first
    |exact AC J (Sub.of_eq J)
    |(exfalso;omega)
  ·obtain⟨k,hk,m,hm,e⟩:=Tx (n:=n) h1 O O
   rw[e,show toE t n=0 by unfold toE;rw[if_neg hnf,if_neg O]]
   have hw:OQ 0 (IntKind.i64.wrap (n-t.start))=(k:Int):=by rw[AW O O,Yo,hk]
   refine ct0 Ab Tryz.func24 J false J J ?_
   repeat'(first|refine Ak Ab J J J J J ?_|refine Ap Ab J J J ?_|refine A0 ?_|refine A9 ?_|refine Aw Ab J J ?_|(refine A1 J J J J J (ht:=fun h=>?_) (hf:=fun h=>?_)<;>try exact prn)|(refine A2 J J J J J (ht:=fun h=>?_) (hf:=fun h=>?_)<;>try exact prn)|refine Ag J J J J J ?_|(refine Al J (ht:=fun h=>?_) (hf:=fun h=>?_)<;>try exact prn)|refine Au ?_|refine Aq ?_|refine Ar ?_|refine A3 ?_|refine Aj Ab J J J J J J J (Ac Z) J ?_|refine Ae Ab J J J J J J J Z (Ac Z) J ?_|refine Ah Ab J J J J J J J J J J J J J (by simp[Ad];omega) ?_|refine Af Ab J J J J J J J J J J J J J J (by simp[Ad];omega) ?_|refine A8 Ab J J J J J (fun _=>rfl) (fun b hb=>?_)|refine As J J J J ?_|refine A4 ?_|(refine A5 J J J J J (ht:=fun h=>?_) (hf:=fun h=>?_)<;>try exact prn)|(refine A6 J J J J J (ht:=fun h=>?_) (hf:=fun h=>?_)<;>try exact prn)|refine Ai J J J J J ?_|refine An J J J J J J J (Ac Z) J ?_|refine Ao J J J J J J J Z (Ac Z) J ?_|refine A7 Ab J J J J J J J (c1) J J ?_|refine Ae Ab J J J J J J J hw (Ac hm) J ?_)
   all_goals first
    |exact AC J (Sub.of_eq J)
    |(exfalso;omega)
 ·have h1':Ck t=false:=by simpa using h1
  rw[show toN t n=0 by simp[toN,h1'],show toE t n=2 by simp[toE,h1']]
  rw[if_neg h1]at c1
  refine ct0 Ab Tryz.func24 J false J J ?_
  repeat'(first|refine Ak Ab J J J J J ?_|refine Ap Ab J J J ?_|refine A0 ?_|refine A9 ?_|refine Aw Ab J J ?_|(refine A1 J J J J J (ht:=fun h=>?_) (hf:=fun h=>?_)<;>try exact prn)|(refine A2 J J J J J (ht:=fun h=>?_) (hf:=fun h=>?_)<;>try exact prn)|refine Ag J J J J J ?_|(refine Al J (ht:=fun h=>?_) (hf:=fun h=>?_)<;>try exact prn)|refine Au ?_|refine Aq ?_|refine Ar ?_|refine A3 ?_|refine Aj Ab J J J J J J J (Ac Z) J ?_|refine Ae Ab J J J J J J J Z (Ac Z) J ?_|refine Ah Ab J J J J J J J J J J J J J (by simp[Ad];omega) ?_|refine Af Ab J J J J J J J J J J J J J J (by simp[Ad];omega) ?_|refine A8 Ab J J J J J (fun _=>rfl) (fun b hb=>?_)|refine As J J J J ?_|refine A4 ?_|(refine A5 J J J J J (ht:=fun h=>?_) (hf:=fun h=>?_)<;>try exact prn)|(refine A6 J J J J J (ht:=fun h=>?_) (hf:=fun h=>?_)<;>try exact prn)|refine Ai J J J J J ?_|refine An J J J J J J J (Ac Z) J ?_|refine Ao J J J J J J J Z (Ac Z) J ?_|refine A7 Ab J J J J J J J (c1) J J ?_)
  exact AC J (Sub.of_eq J)
theorem Lp (l:List Table) (hl:l.length≤1000000000) (hs: ∀t∈l,t.new.length≤1000000000):Ct Tryz.prog 23 [.t (.slice .any 3 (l.map AN))] [] (.t (.bool (Bq l))) []:=by
 have hlm:(l.map AN).length=l.length:=List.length_map ..
 refine ct0 Ab Tryz.func23 J false J J ?_
 repeat'(first|refine Ak Ab J J J J J ?_|refine Ap Ab J J J ?_|refine A0 ?_|refine A9 ?_|refine Aw Ab J J ?_|(refine A1 J J J J J (ht:=fun h=>?_) (hf:=fun h=>?_)<;>try exact prn)|(refine A2 J J J J J (ht:=fun h=>?_) (hf:=fun h=>?_)<;>try exact prn)|refine Ag J J J J J ?_|(refine Al J (ht:=fun h=>?_) (hf:=fun h=>?_)<;>try exact prn)|refine Au ?_|refine Aq ?_|refine Ar ?_|refine A3 ?_|refine Aj Ab J J J J J J J (Ac Z) J ?_|refine Ae Ab J J J J J J J Z (Ac Z) J ?_|refine Ah Ab J J J J J J J J J J J J J (by simp[Ad];omega) ?_|refine Af Ab J J J J J J J J J J J J J J (by simp[Ad];omega) ?_|refine A8 Ab J J J J J (fun _=>rfl) (fun b hb=>?_)|refine As J J J J ?_|refine A4 ?_|(refine A5 J J J J J (ht:=fun h=>?_) (hf:=fun h=>?_)<;>try exact prn)|(refine A6 J J J J J (ht:=fun h=>?_) (hf:=fun h=>?_)<;>try exact prn)|refine Ai J J J J J ?_|refine An J J J J J J J (Ac Z) J ?_|refine Ao J J J J J J J Z (Ac Z) J ?_)
 ·refine AC J (BN ?_);rw[hlm]at h;simp[Bq];intro;omega
 refine BC (ι:=Nat) (fun i=>i≤l.length∧(l.take i).all Ck=true) (fun i=>[(0,.t (.slice .any 3 (l.map AN))),(3,.t (.int .i64 i))]) (fun _=>[]) (fun i=>l.length-i) 0 Y ?_ ?_
 ·exact Ce [] (Av J J (Av J J AJ)) J
 rintro i ⟨hi,hall⟩
 by_cases hlt:i<l.length
 ·have hr:l[i]?=some l[i]:=List.getElem?_eq_getElem hlt
  have hsr:=hs l[i] (List.getElem_mem hlt)
  generalize l[i]=t at hr hsr
  have c1:=Lo t hsr
  unfold tcE at c1
  by_cases ht:Ck t=true
  ·rw[if_pos ht]at c1
   repeat'(first|refine Ak Ab J J J J J ?_|refine Ap Ab J J J ?_|refine A0 ?_|refine A9 ?_|refine Aw Ab J J ?_|(refine A1 J J J J J (ht:=fun h=>?_) (hf:=fun h=>?_)<;>try exact prn)|(refine A2 J J J J J (ht:=fun h=>?_) (hf:=fun h=>?_)<;>try exact prn)|refine Ag J J J J J ?_|(refine Al J (ht:=fun h=>?_) (hf:=fun h=>?_)<;>try exact prn)|refine Au ?_|refine Aq ?_|refine Ar ?_|refine A3 ?_|refine Aj Ab J J J J J J J (Ac Z) J ?_|refine Ae Ab J J J J J J J Z (Ac Z) J ?_|refine Ah Ab J J J J J J J J J J J J J (by simp[Ad];omega) ?_|refine Af Ab J J J J J J J J J J J J J J (by simp[Ad];omega) ?_|refine A8 Ab J J J J J (fun _=>rfl) (fun b hb=>?_)|refine As J J J J ?_|refine A4 ?_|(refine A5 J J J J J (ht:=fun h=>?_) (hf:=fun h=>?_)<;>try exact prn)|(refine A6 J J J J J (ht:=fun h=>?_) (hf:=fun h=>?_)<;>try exact prn)|refine Ai J J J J J ?_|refine An J J J J J J J (Ac Z) J ?_|refine Ao J J J J J J J Z (Ac Z) J ?_|refine Bv J J J J J (c1) J J ?_|refine A7 Ab J J J J J J J (c1) J J ?_)
   refine BB (i+1) ⟨hlt,by rw[BK hr,List.all_append,hall];simp[ht]⟩ O [] (Av J J (Av J (by rw[AW O O];rfl) AJ)) J
  ·rw[if_neg ht]at c1
   repeat'(first|refine Ak Ab J J J J J ?_|refine Ap Ab J J J ?_|refine A0 ?_|refine A9 ?_|refine Aw Ab J J ?_|(refine A1 J J J J J (ht:=fun h=>?_) (hf:=fun h=>?_)<;>try exact prn)|(refine A2 J J J J J (ht:=fun h=>?_) (hf:=fun h=>?_)<;>try exact prn)|refine Ag J J J J J ?_|(refine Al J (ht:=fun h=>?_) (hf:=fun h=>?_)<;>try exact prn)|refine Au ?_|refine Aq ?_|refine Ar ?_|refine A3 ?_|refine Aj Ab J J J J J J J (Ac Z) J ?_|refine Ae Ab J J J J J J J Z (Ac Z) J ?_|refine Ah Ab J J J J J J J J J J J J J (by simp[Ad];omega) ?_|refine Af Ab J J J J J J J J J J J J J J (by simp[Ad];omega) ?_|refine A8 Ab J J J J J (fun _=>rfl) (fun b hb=>?_)|refine As J J J J ?_|refine A4 ?_|(refine A5 J J J J J (ht:=fun h=>?_) (hf:=fun h=>?_)<;>try exact prn)|(refine A6 J J J J J (ht:=fun h=>?_) (hf:=fun h=>?_)<;>try exact prn)|refine Ai J J J J J ?_|refine An J J J J J J J (Ac Z) J ?_|refine Ao J J J J J J J Z (Ac Z) J ?_|refine Bv J J J J J (c1) J J ?_|refine A7 Ab J J J J J J J (c1) J J ?_)
   refine AC J (BN ?_)
   have hm:t∈l:=List.mem_of_getElem? hr
   symm;rw[Bq,Bool.and_eq_false_iff];right
   rw[List.all_eq_false];exact⟨t,hm,ht⟩
 ·repeat'(first|refine Ak Ab J J J J J ?_|refine Ap Ab J J J ?_|refine A0 ?_|refine A9 ?_|refine Aw Ab J J ?_|(refine A1 J J J J J (ht:=fun h=>?_) (hf:=fun h=>?_)<;>try exact prn)|(refine A2 J J J J J (ht:=fun h=>?_) (hf:=fun h=>?_)<;>try exact prn)|refine Ag J J J J J ?_|(refine Al J (ht:=fun h=>?_) (hf:=fun h=>?_)<;>try exact prn)|refine Au ?_|refine Aq ?_|refine Ar ?_|refine A3 ?_|refine Aj Ab J J J J J J J (Ac Z) J ?_|refine Ae Ab J J J J J J J Z (Ac Z) J ?_|refine Ah Ab J J J J J J J J J J J J J (by simp[Ad];omega) ?_|refine Af Ab J J J J J J J J J J J J J J (by simp[Ad];omega) ?_|refine A8 Ab J J J J J (fun _=>rfl) (fun b hb=>?_)|refine As J J J J ?_|refine A4 ?_|(refine A5 J J J J J (ht:=fun h=>?_) (hf:=fun h=>?_)<;>try exact prn)|(refine A6 J J J J J (ht:=fun h=>?_) (hf:=fun h=>?_)<;>try exact prn)|refine Ai J J J J J ?_|refine An J J J J J J J (Ac Z) J ?_|refine Ao J J J J J J J Z (Ac Z) J ?_)
  refine AC J (BN ?_)
  rw[List.take_of_length_le O]at hall
  rw[hlm]at h
  simp[Bq,hall];omega
end Go.Proofs.YthjoclecnacdiaaGreatDoor
