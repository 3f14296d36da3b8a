/- Contracts and laws, joined: Uc, Ud, Ug, Uh, Uj. No condition beside those that each theorem names. -/
import Derived.Test.YtpdmaenhenfofaaGreatDoorZM10
import Derived.Test.YtpdmaenhenfofaaGreatDoorZM11
import Derived.Test.YtpdmaenhenfofaaGreatDoorZJ2
import Derived.Test.YtpdmaenhenfofaaGreatDoorZJ6
import Derived.Test.YtpdmaenhenfofaaGreatDoorZJ19
set_option linter.unusedVariables false
set_option linter.unusedSimpArgs false
namespace Go.Proofs.YtpdmaenhenfofaaGreatDoor
open Go.Am
attribute [local irreducible] Decidable.decide
set_option maxRecDepth 100000
set_option maxHeartbeats 1000000
theorem QA: ∀(j n:Nat),j<(B6 n).length→(B6 n).drop j=B6 (n/128^j)
 |0,n,_=>by simp
 |j+1,n,h=>by
  by_cases h1:n<128
  ·rw[CA h1]at h;simp at h
  ·rw[Gb h1,List.length_cons]at h
   rw[Gb h1,List.drop_succ_cons,QA j (n/128) O,Nat.div_div_eq_div_mul,Nat.pow_succ,Nat.mul_comm]
theorem SQ: ∀(j n:Nat),0<j→j<(B6 n).length→0<n/128^j
 |0,n,h,_=>by omega
 |j+1,n,_,h=>by
  by_cases h1:n<128
  ·rw[CA h1]at h;simp at h
  ·rw[Gb h1,List.length_cons]at h
   have e:n/128^(j+1)=(n/128)/128^j:=by rw[Nat.div_div_eq_div_mul,Nat.pow_succ,Nat.mul_comm]
   rw[e]
   by_cases h0:j=0
   ·subst h0;simp;omega
   ·exact SQ j (n/128) O O
theorem RO (n:Nat):0<(B6 n).length:=by
 by_cases h:n<128
 ·rw[CA h];simp
 ·rw[Gb h];simp
theorem XA {n j:Nat} (h:j<(B6 n).length): ∃c:UInt8,(B6 n)[j]?=some c∧((n/128^j<128∧c.toNat=n/128^j∧(B6 n).length=j+1)∨(¬n/128^j<128∧c.toNat=128+n/128^j % 128∧j+1<(B6 n).length)):=by
 have hd:=QA j n h
 have hl:=congrArg List.length hd
 rw[List.length_drop]at hl
 have hg:(B6 n)[j]?=(B6 (n/128^j))[0]?:=by rw[←hd,List.getElem?_drop];simp
 generalize n/128^j=m at*
 by_cases h1:m<128
 ·rw[CA h1]at hg hl
  refine⟨_,hg,.inl ⟨h1,by simp[UInt8.toNat_ofNat'];omega,by simp at hl;omega⟩⟩
 ·rw[Gb h1]at hg hl
  refine⟨_,hg,.inr ⟨h1,by simp[UInt8.toNat_ofNat'];omega,?_⟩⟩
  have:=RO (m/128)
  simp at hl;omega
theorem Na {s r:Bs} {k:Nat} (h:s.drop k=r) (j:Nat):s[k+j]?=r[j]?:=by rw[←h,List.getElem?_drop]
theorem Ad5 {n j c:Nat} (hc:c % 128=n/128^j % 128):n % 128^j+128^j*(c % 128)=n % 128^(j+1):=by
 rw[hc,Nat.pow_succ,Nat.mod_mul]
theorem Z0 (a:Nat):((a:Int)).tmod 128=((a % 128:Nat):Int):=by
 rw[Int.tmod_eq_emod_of_nonneg O];omega
theorem UE (s post:Bs) (k n:Nat) (hd:s.drop k=B6 n++post) (hn:n≤1099511627776) (hs:s.length≤1000000):Ct Tryz.prog 183 [.t (.slice .any 1 (s.map Bn)),.t (.int .i64 (k:Int))] [] (.tuple [.t (.int .i64 (n:Int)),.t (.int .i64 ((k+(B6 n).length:Nat):Int)),.t (.int .i64 0)]) []:=by
 have hlm:(s.map Bn).length=s.length:=List.length_map ..
 have h6:=Cf hn
 have h0:=RO n
 have hl:=congrArg List.length hd
 rw[List.length_drop,List.length_append]at hl
 refine ct0 Ac Tryz.func183 J false J J ?_
 repeat'(first|refine Ae Ac J J J ?_|refine Ag ?_|refine Ah ?_|refine Ai Ac J J ?_|(refine AP J J J J J (ht:=fun h=>?_) (hf:=fun h=>?_)<;>try exact prn)|(refine Af J (ht:=fun h=>?_) (hf:=fun h=>?_)<;>try exact prn)|refine Al ?_|refine Ao ?_)
 all_goals try(exfalso;omega)
 refine AM (ι:=Nat) (fun j=>j<(B6 n).length) (fun j=>[(0,.t (.slice .any 1 (s.map Bn))),(1,.t (.int .i64 (k:Int))),(7,.t (.int .i64 ((n % 128^j:Nat):Int))),(8,.t (.int .i64 ((128^j:Nat):Int))),(9,.t (.int .i64 ((k+j:Nat):Int)))]) (fun _=>[]) (fun j=>(B6 n).length-j) 0 h0 ?_ ?_
 ·exact AR [] (Ad J J (Ad J J (Ad J (by rw[Nat.pow_zero,Nat.mod_one];rfl) (Ad J J (Ad J J Aq))))) J
 rintro j hj
 obtain⟨c,hc,hcase⟩:=XA hj
 have hr:s[k+j]?=some c:=by rw[Na hd,List.getElem?_append_left hj];exact hc
 have hpj:128^j≤34359738368:=by
  have:=Nat.pow_le_pow_right (n:=128) Ab (show j≤5 by omega)
  exact this
 have hcm:c.toNat % 128=n/128^j % 128:=by rcases hcase with⟨h1,h2,_⟩|⟨h1,h2,_⟩<;>rw[h2]<;>omega
 have hacc:=Ad5 hcm
 have hle:n % 128^(j+1)≤n:=Nat.mod_le ..
 have hm0:n % 128^j≤n:=Nat.mod_le ..
 have hu:IntKind.i64.wrap (((128^j:Nat):Int)*128)=((128^(j+1):Nat):Int):=by rw[A0 O O,Nat.pow_succ];omega
 have hw1:IntKind.i64.wrap (((c.toNat:Int)).tmod 128)=((c.toNat % 128:Nat):Int):=by rw[Z0,A0 O O]
 have hw2:IntKind.i64.wrap (((128^j:Nat):Int)*((c.toNat % 128:Nat):Int))=((128^j*(c.toNat % 128):Nat):Int):=by rw[←Int.natCast_mul,A0 O O]
 have hw3:IntKind.i64.wrap (((n % 128^j:Nat):Int)+((128^j*(c.toNat % 128):Nat):Int))=((n % 128^(j+1):Nat):Int):=by rw[←Int.natCast_add,hacc,A0 O O]
 have hall:IntKind.i64.wrap (((n % 128^j:Nat):Int)+IntKind.i64.wrap (((128^j:Nat):Int)*IntKind.i64.wrap (((c.toNat:Int)).tmod 128)))=((n % 128^(j+1):Nat):Int):=by rw[hw1,hw2,hw3]
 have hw6:IntKind.i64.wrap ((k:Int)+6)=(k:Int)+6:=A0 O O
 rcases hcase with⟨h1,h2,h3⟩|⟨h1,h2,h3⟩
 ·have hfin:n % 128^(j+1)=n:=Nat.mod_eq_of_lt (by rw[Nat.pow_succ,Nat.mul_comm];exact(Nat.div_lt_iff_lt_mul (Nat.pow_pos (show 0<128 by decide))).1 O)
  have hp:0<j→0<n/128^j:=fun h=>SQ j n h hj
  rw[hfin]at hall
  generalize n/128^j=m at*
  have hidx:IntKind.i64.wrap (((k+j:Nat):Int)+1)=((k+(B6 n).length:Nat):Int):=by rw[A0 O O,h3];omega
  repeat'(first|refine Ae Ac J J J ?_|refine Ag ?_|refine Ah ?_|refine Ai Ac J J ?_|(refine AZ J J J J J (ht:=fun h=>?_) (hf:=fun h=>?_)<;>try exact prn)|(refine AP J J J J J (ht:=fun h=>?_) (hf:=fun h=>?_)<;>try exact prn)|(refine Af J (ht:=fun h=>?_) (hf:=fun h=>?_)<;>try exact prn)|refine Al ?_|refine Ao ?_|refine Ar ?_|refine AD Ac J J J J J J J (A2 Aa) J ?_)
  all_goals try(exfalso;omega)
  all_goals exact Au J (Sub.of_eq (by rw[hall,hidx]))
 ·have hidx:IntKind.i64.wrap (((k+j:Nat):Int)+1)=((k+(j+1):Nat):Int):=by rw[A0 O O];omega
  repeat'(first|refine Ae Ac J J J ?_|refine Ag ?_|refine Ah ?_|refine Ai Ac J J ?_|(refine AZ J J J J J (ht:=fun h=>?_) (hf:=fun h=>?_)<;>try exact prn)|(refine Af J (ht:=fun h=>?_) (hf:=fun h=>?_)<;>try exact prn)|refine Al ?_|refine Ao ?_|refine AD Ac J J J J J J J (A2 Aa) J ?_)
  all_goals try(exfalso;omega)
  all_goals exact AF (j+1) h3 O [] (Ad J J (Ad J J (Ad J (by rw[hall]) (Ad J (by rw[hu]) (Ad J (by rw[hidx]) Aq))))) J
end Go.Proofs.YtpdmaenhenfofaaGreatDoor
namespace Go.Proofs.YtpdmaenhenfofaaGreatDoor
open Go.Am
attribute [local irreducible] Decidable.decide
set_option maxRecDepth 100000
set_option maxHeartbeats 1000000
def rdS (l:Nat) (s:Bs) (k:Nat):St:=[(l,.cells [.t (.str s),.t (.int .i64 (k:Int)),.t (.bool false)])]
theorem J8 (s:Bs):Ct Tryz.prog 139 [.t (.str s)] [] (.ref 10 0) (rdS 10 s 0):=by
 refine ct1 Ac Tryz.func139 J J ?_
 repeat'(first|refine Ae Ac J J J ?_|refine Ag ?_|refine Ah ?_|refine Ai Ac J J ?_)
 refine Ar ?_
 exact BR [] J J J (Sub.refl _)
theorem De (s post:Bs) (k n:Nat) (lo hi:Int) (hd:s.drop k=B6 n++post) (hs:s.length≤1000000) (h1:lo≤n) (h2:(n:Int)≤hi) (h3:hi≤1099511627776):Ct Tryz.prog 140 [.ref 1 0,.t (.int .i64 lo),.t (.int .i64 hi)] (rdS 1 s k) (.t (.int .i64 (n:Int))) (rdS 1 s (k+(B6 n).length)):=by
 have cg:=UE s post k n hd O hs
 refine ct1 Ac Tryz.func140 J J ?_
 repeat'(first|refine An Ac J J J J J ?_|refine Ae Ac J J J ?_|refine Ag ?_|refine Ah ?_|refine Ai Ac J J ?_|(refine AP J J J J J (ht:=fun h=>?_) (hf:=fun h=>?_)<;>try exact prn)|(refine Af J (ht:=fun h=>?_) (hf:=fun h=>?_)<;>try exact prn)|refine Ao ?_|refine A9 (id:=3) (m:=16) Ac Y J J J J ?_|refine AA J J J J ?_|refine AO J J J J J (cg) J J ?_)
 all_goals try(exfalso;omega)
 all_goals refine Ar ?_
 all_goals exact BR [] J J J (Sub.refl _)
theorem Tu (s post t:Bs) (k:Nat) (hi:Int) (hd:s.drop k=Dd t++post) (hs:s.length≤1000000) (h2:(t.length:Int)≤hi) (h3:hi≤1048576):Ct Tryz.prog 143 [.ref 1 0,.t (.int .i64 hi)] (rdS 1 s k) (.t (.str t)) (rdS 1 s (k+(Dd t).length)):=by
 have hd2:s.drop k=B6 t.length++(t++post):=by rw[hd,Dd,List.append_assoc]
 have cg:=UE s (t++post) k t.length hd2 O hs
 have hl:=congrArg List.length hd2
 rw[List.length_drop,List.length_append,List.length_append]at hl
 have h0:=RO t.length
 have hw:IntKind.i64.wrap (((k+(B6 t.length).length:Nat):Int)+(t.length:Int))=((k+(Dd t).length:Nat):Int):=by
  rw[A0 O O,Dd,List.length_append];omega
 have hw2:IntKind.i64.wrap ((s.length:Int)-((k+(B6 t.length).length:Nat):Int))=(s.length:Int)-((k+(B6 t.length).length:Nat):Int):=A0 O O
 have htl:(Dd t).length=(B6 t.length).length+t.length:=by simp[Dd]
 have hsl:(s.drop (k+(B6 t.length).length)).take (k+(Dd t).length-(k+(B6 t.length).length))=t:=by
  rw[←List.drop_drop,hd2,List.drop_left,show k+(Dd t).length-(k+(B6 t.length).length)=t.length by omega,List.take_left]
 refine ct1 Ac Tryz.func143 J J ?_
 repeat'(first|refine An Ac J J J J J ?_|refine Ae Ac J J J ?_|refine Ag ?_|refine Ah ?_|refine Ai Ac J J ?_|(refine AP J J J J J (ht:=fun h=>?_) (hf:=fun h=>?_)<;>try exact prn)|(refine Af J (ht:=fun h=>?_) (hf:=fun h=>?_)<;>try exact prn)|refine Ao ?_|refine A9 (id:=3) (m:=16) Ac Y J J J J ?_|refine A9 (id:=8) (m:=9) Ac Y J J J J ?_|refine AA J J J J ?_|refine CY ?_|refine AO J J J J J (cg) J J ?_|refine ND Ac (l:=k+(B6 t.length).length) (h:=k+(Dd t).length) J J J J (Do J hw) (Do J J) O O hsl J ?_)
 all_goals try(exfalso;omega)
 all_goals refine Ar ?_
 all_goals refine BR [] J J (by rw[hw];rfl) (Sub.refl _)
theorem Lq (s post:Bs) (k:Nat) (y:Bool) (hd:s.drop k=Da y++post) (hs:s.length≤1000000):Ct Tryz.prog 142 [.ref 1 0] (rdS 1 s k) (.t (.bool y)) (rdS 1 s (k+1)):=by
 have hl:=congrArg List.length hd
 rw[List.length_drop,List.length_append]at hl
 have hf:(Da y).length=1:=rfl
 have hr0:=Na hd 0
 have hr:s[k]?=some (if y then 1 else 0):=by simpa[Da]using hr0
 have hw:IntKind.i64.wrap ((k:Int)+1)=((k+1:Nat):Int):=by rw[A0 O O];rfl
 have hw2:IntKind.i64.wrap (IntKind.i64.wrap ((k:Int)+1)-1)=(k:Int):=by rw[hw,A0 O O];omega
 have e1:UInt8.toNat 1=1:=rfl
 have e0:UInt8.toNat 0=0:=rfl
 cases y with
 |true=>
  refine ct1 Ac Tryz.func142 J J ?_
  repeat'(first|refine An Ac J J J J J ?_|refine Ae Ac J J J ?_|refine Ag ?_|refine Ah ?_|refine Ai Ac J J ?_|(refine AP J J J J J (ht:=fun h=>?_) (hf:=fun h=>?_)<;>try exact prn)|(refine Af J (ht:=fun h=>?_) (hf:=fun h=>?_)<;>try exact prn)|refine Ao ?_|refine A9 (id:=3) (m:=26) Ac Y J J J J ?_|refine A9 (id:=7) (m:=9) Ac Y J J J J ?_|refine AA J J J J ?_|refine CY ?_|(refine Fi J J J J J (ht:=fun h=>?_) (hf:=fun h=>?_)<;>try exact prn)|refine IJ Ac (kc:=k) (cc:=1) J J J J J J hr J ?_|refine IJ Ac (kc:=k) (cc:=1) J J J J J hw2 hr J ?_)
  all_goals try(exfalso;omega)
  all_goals refine Ar ?_
  all_goals refine BR [] J J (by rw[hw];rfl) (BJ Z)
 |false=>
  refine ct1 Ac Tryz.func142 J J ?_
  repeat'(first|refine An Ac J J J J J ?_|refine Ae Ac J J J ?_|refine Ag ?_|refine Ah ?_|refine Ai Ac J J ?_|(refine AP J J J J J (ht:=fun h=>?_) (hf:=fun h=>?_)<;>try exact prn)|(refine Af J (ht:=fun h=>?_) (hf:=fun h=>?_)<;>try exact prn)|refine Ao ?_|refine A9 (id:=3) (m:=26) Ac Y J J J J ?_|refine A9 (id:=7) (m:=9) Ac Y J J J J ?_|refine AA J J J J ?_|refine CY ?_|(refine Fi J J J J J (ht:=fun h=>?_) (hf:=fun h=>?_)<;>try exact prn)|refine IJ Ac (kc:=k) (cc:=0) J J J J J J hr J ?_|refine IJ Ac (kc:=k) (cc:=0) J J J J J hw2 hr J ?_)
  all_goals try(exfalso;omega)
  all_goals refine Ar ?_
  all_goals refine BR [] J J (by rw[hw];rfl) (BJ Z)
theorem JA (s:Bs):Ct Tryz.prog 144 [.ref 1 0] (rdS 1 s s.length) (.t (.int .i64 0)) (rdS 1 s s.length):=by
 refine ct1 Ac Tryz.func144 J J ?_
 repeat'(first|refine Ae Ac J J J ?_|refine Ag ?_|refine Ah ?_|refine Ai Ac J J ?_|(refine AP J J J J J (ht:=fun h=>?_) (hf:=fun h=>?_)<;>try exact prn)|(refine Af J (ht:=fun h=>?_) (hf:=fun h=>?_)<;>try exact prn)|refine Ao ?_|refine A9 (id:=1) (m:=18) Ac Y J J J J ?_|refine AA J J J J ?_|(refine Fi J J J J J (ht:=fun h=>?_) (hf:=fun h=>?_)<;>try exact prn))
 all_goals try(exfalso;omega)
 all_goals refine Ar ?_
 all_goals exact BR [] J J J (Sub.refl _)
end Go.Proofs.YtpdmaenhenfofaaGreatDoor
namespace Go.Proofs.YtpdmaenhenfofaaGreatDoor
open Go.Am
attribute [local irreducible] Decidable.decide
set_option maxRecDepth 100000
set_option maxHeartbeats 1000000
theorem Ca {s a r:Bs} {k:Nat} (h:s.drop k=a++r):s.drop (k+a.length)=r:=by rw[←List.drop_drop,h,List.drop_left]
theorem XY {l:List Rec} {i:Nat} {r:Rec} (h:l[i]?=some r):(l.take (i+1)).flatMap Hi=(l.take i).flatMap Hi++Hi r:=by rw[AL h];simp
theorem VL {l:List Rec} {i:Nat} {r:Rec} (h:l[i]?=some r):l.flatMap Hi=(l.take i).flatMap Hi++(Hi r++(l.drop (i+1)).flatMap Hi):=by
 have e:l=l.take i++r::l.drop (i+1):=by rw[←BE h,List.take_append_drop]
 conv=>lhs;rw[e]
 simp
theorem NL (s post:Bs) (k:Nat) (b:Batch) (hd:s.drop k=CV b++post) (hs:s.length≤1000000) (hb:A1 b=true):Ct Tryz.prog 141 [.ref 1 0] (rdS 1 s k) (.agg (Aj (Ap b))) (rdS 1 s (k+(CV b).length)):=by
 have hm:=AU hb
 have hbb:Cm b:=by simp only[A1,Bool.and_eq_true,decide_eq_true_eq]at hb;exact hb.1
 unfold Cm at hbb
 have hrok: ∀r∈b.recs,G6 r=true:=by simp only[A1,Bool.and_eq_true]at hb;exact List.all_eq_true.1 hb.2
 have hlr:(b.recs.map Bu).length=b.recs.length:=List.length_map ..
 have h0:s.drop k=B6 b.pid.toNat++(B6 b.epoch.toNat++(B6 b.seq.toNat++(Da b.txn++(B6 b.recs.length++(b.recs.flatMap Hi++post))))):=by rw[hd];simp[CV]
 have h1:=Ca h0
 have h2:=Ca h1
 have h3:=Ca h2
 have h4:=Ca h3
 have h5:=Ca h4
 have hlen:k+(B6 b.pid.toNat).length+(B6 b.epoch.toNat).length+(B6 b.seq.toNat).length+(Da b.txn).length+(B6 b.recs.length).length+(b.recs.flatMap Hi).length=k+(CV b).length:=by simp[CV];omega
 have c0:=De s _ k b.pid.toNat 1 8 h0 hs O O O
 have c1:=De s _ _ b.epoch.toNat 0 100 h1 hs O O O
 have c2:=De s _ _ b.seq.toNat 0 1048576 h2 hs O O O
 have c3:=Lq s _ _ b.txn h3 hs
 have c4:=De s _ _ b.recs.length 1 4 h4 hs O O O
 have hf1:(Da b.txn).length=1:=rfl
 rw[hf1]at c4 h5 hlen
 generalize hk5:k+(B6 b.pid.toNat).length+(B6 b.epoch.toNat).length+(B6 b.seq.toNat).length+1+(B6 b.recs.length).length=k5 at*
 have e0:((b.pid.toNat:Nat):Int)=b.pid:=by omega
 have e1:((b.epoch.toNat:Nat):Int)=b.epoch:=by omega
 have e2:((b.seq.toNat:Nat):Int)=b.seq:=by omega
 rw[e0]at c0
 rw[e1]at c1
 rw[e2]at c2
 refine ct1 Ac Tryz.func141 J J ?_
 repeat'(first|refine An Ac J J J J J ?_|refine Ae Ac J J J ?_|refine Ag ?_|refine Ah ?_|refine Ai Ac J J ?_|refine Al ?_|refine A7 Ac [(1,1)] [(1,1)] J J J J J c0 J J J J J ?_|refine A7 Ac [(1,1)] [(1,1)] J J J J J c1 J J J J J ?_|refine A7 Ac [(1,1)] [(1,1)] J J J J J c2 J J J J J ?_|refine A7 Ac [(1,1)] [(1,1)] J J J J J c3 J J J J J ?_|refine A7 Ac [(1,1)] [(1,1)] J J J J J c4 J J J J J ?_)
 refine Tr.nilCell 6 4 30 2 J J J ?_
 refine AM (ι:=Nat) (fun i=>i≤b.recs.length) (fun i=>[(0,.ref 1 0),(2,.ref 4 0),(3,.ref 6 0),(4,.t (.int .i64 (b.recs.length:Int))),(5,.t (.int .i64 i))]) (fun i=>[(60,.grow 2 ((b.recs.take i).map Bu)),(1,.cells [.t (.str s),.t (.int .i64 ((k5+((b.recs.take i).flatMap Hi).length:Nat):Int)),.t (.bool false)]),(6,.cells [.t (.int .i64 b.pid),.t (.int .i64 b.epoch),.t (.int .i64 b.seq),.t (.bool b.txn),.row 60 2 0 ((b.recs.take i).map Bu).length]),(4,.cells (Aj Aht.zero))]) (fun i=>b.recs.length-i) 0 Z ?_ ?_
 ·exact AR [] (Ad J J (Ad J J (Ad J J (Ad J J (Ad J J Aq))))) J
 rintro i hi
 by_cases hlt:i<b.recs.length
 ·have hr:b.recs[i]?=some b.recs[i]:=List.getElem?_eq_getElem hlt
  have hok:=hrok b.recs[i] (List.getElem_mem hlt)
  generalize b.recs[i]=r at hr hok
  simp only[G6,Bool.and_eq_true,decide_eq_true_eq]at hok
  have hq:s.drop (k5+((b.recs.take i).flatMap Hi).length)=Dd r.key++(Dd r.value++((b.recs.drop (i+1)).flatMap Hi++post)):=by
   rw[VL hr,List.append_assoc]at h5
   rw[Ca h5];simp[Hi]
  have hq2:=Ca hq
  have c5:=Tu s _ r.key _ 16 hq hs O O
  have c6:=Tu s _ r.value _ 16 hq2 hs O O
  have hke:k5+((b.recs.take i).flatMap Hi).length+(Dd r.key).length+(Dd r.value).length=k5+((b.recs.take (i+1)).flatMap Hi).length:=by rw[XY hr];simp[Hi];omega
  rw[hke]at c6
  repeat'(first|refine An Ac J J J J J ?_|refine Ae Ac J J J ?_|refine Ag ?_|refine Ah ?_|refine Ai Ac J J ?_|(refine Af J (ht:=fun h=>?_) (hf:=fun h=>?_)<;>try exact prn)|refine Al ?_|refine Ao ?_|refine AN Ac J J J J J J J J J J J J J J (by simp[AW];omega) ?_|refine Gp Ac [0,2,4] 8 Y J J (by rintro ch e s ⟨hx,_⟩;rcases hx with hx|hx<;>cases hx) ?_|refine P8 J ?_|refine P7 J J ?_|refine P6 J J J ?_ ?_|refine A7 Ac [(1,1)] [(1,1)] J J J J J c5 J J J J J ?_|refine A7 Ac [(1,1)] [(1,1)] J J J J J c6 J J J J J ?_)
  all_goals refine AF (i+1) hlt O [] (Ad J J (Ad J J (Ad J J (Ad J J (Ad J (by rw[A0 O O];rfl) Aq))))) ?_
  all_goals rw[AL hr,List.map_append]
  all_goals rfl
 ·have hin:i=b.recs.length:=by omega
  subst hin
  rw[List.take_length]
  have c6m:=Sr b
  rw[hb]at c6m
  refine Tr.frzRow 60 J ?_
  refine Tr.weakC (cs':=Aj (Ap b)) 6 J ⟨Sub.refl _,Sub.refl _,Sub.refl _,Sub.refl _,Sub.of_eq (by simp[BA];try exact List.take_of_length_le Z),trivial⟩ ?_
  repeat'(first|refine An Ac J J J J J ?_|refine Ae Ac J J J ?_|refine Ag ?_|refine Ah ?_|refine Ai Ac J J ?_|(refine AP J J J J J (ht:=fun h=>?_) (hf:=fun h=>?_)<;>try exact prn)|(refine Af J (ht:=fun h=>?_) (hf:=fun h=>?_)<;>try exact prn)|refine Ao ?_|refine AB ?_|refine Ak Ac J J J J J J J (c6m) J J ?_)
  all_goals refine Ar ?_
  all_goals refine BR [2,3] J J (by rw[hlen];rfl) (Sub.refl _)
end Go.Proofs.YtpdmaenhenfofaaGreatDoor
namespace Go.Proofs.YtpdmaenhenfofaaGreatDoor
open Go.Am
attribute [local irreducible] Decidable.decide
set_option maxRecDepth 100000
set_option maxHeartbeats 1000000
def eD (b:Batch):Entry:=⟨0,b,false,0,0,Ia,DG⟩
def eM (pid epoch:Int) (yes:Bool):Entry:=⟨1,⟨pid,epoch,0,false,[]⟩,yes,0,0,Ia,DG⟩
def eC (n:Int):Entry:=⟨2,⟨0,0,0,false,[]⟩,false,0,n,Ia,DG⟩
def eY (b:Batch) (yes:Bool) (next:Int):Entry:=⟨3,b,yes,next,0,Ia,DG⟩
def eX (pid epoch next:Int):Entry:=⟨4,⟨pid,epoch,0,false,[]⟩,false,next,0,Ia,DG⟩
theorem ZJ (b:Batch) (hm:B9 (eD b)=true) (hs:(AH (eD b)).length≤1000000):Ct Tryz.prog 87 [.t (.str (AH (eD b)))] [] (.tuple [.agg (Aj (A4 (eD b))),.t (.int .i64 0)]) []:=by
 have hb:A1 b=true:=by simp only[B9,eD,Bool.and_eq_true]at hm;simpa using hm.2
 have h0:(AH (eD b)).drop 0=B6 0++(CV b++[]):=by rw[CA Ab];simp[AH,eD]
 have h1:=Ca h0
 have c0:=De _ _ 0 0 0 127 h0 hs O O O
 have c1:=NL _ _ _ b h1 hs hb
 have he:0+(B6 0).length+(CV b).length=(AH (eD b)).length:=by rw[CA Ab];simp[AH,eD];omega
 rw[he]at c1
 have c2:=JA (AH (eD b))
 have hbb:=AU hb
 have cm:=Gf (eD b) (by simp[eD];try omega) (by simp[eD,DG])
 rw[hm]at cm
 have hw8:IntKind.i8.wrap (((0:Nat)):Int)=0:=by simp[IntKind.wrap,IntKind.bits,IntKind.signed]
 refine ct0 Ac Tryz.func87 J false J J ?_
 repeat'(first|refine An Ac J J J J J ?_|refine Ae Ac J J J ?_|refine Ag ?_|refine Ah ?_|refine Ai Ac J J ?_|(refine AP J J J J J (ht:=fun h=>?_) (hf:=fun h=>?_)<;>try exact prn)|(refine Af J (ht:=fun h=>?_) (hf:=fun h=>?_)<;>try exact prn)|refine Al ?_|refine Ao ?_|refine Ar ?_|refine A7 Ac [] [(10,24)] J J J J J (J8 _) J J J J J ?_|refine A7 Ac [(24,1)] [(1,24)] J J J J J c0 J J J J J ?_|refine A7 Ac [(24,1)] [(1,24)] J J J J J c1 J J J J J ?_|refine A7 Ac [(24,1)] [(1,24)] J J J J J c2 J J J J J ?_|refine Ck Ac J J J J (cm) J J J ⟨B7 ?_,trivial⟩ ?_)
 all_goals try(exfalso;omega)
 all_goals first|exact⟨(by first|exact Sub.refl _|exact Sub.of_eq (by rw[hw8];rfl)),Sub.refl _,Sub.refl _,Sub.refl _,Sub.refl _,Sub.refl _,Sub.refl _,Sub.refl _,Sub.refl _,Sub.refl _,Sub.refl _,Sub.refl _,Sub.refl _,Sub.refl _,Sub.refl _,Sub.refl _,Sub.refl _,A6,trivial⟩|refine Au J (AK ⟨B7 ?_,Sub.refl _,trivial⟩)
 all_goals exact⟨(by first|exact Sub.refl _|exact Sub.of_eq (by rw[hw8];rfl)),Sub.refl _,Sub.refl _,Sub.refl _,Sub.refl _,Sub.refl _,Sub.refl _,Sub.refl _,Sub.refl _,Sub.refl _,Sub.refl _,Sub.refl _,Sub.refl _,Sub.refl _,Sub.refl _,Sub.refl _,Sub.refl _,A6,trivial⟩
theorem ZI (pid epoch:Int) (yes:Bool) (hm:B9 (eM pid epoch yes)=true) (hs:(AH (eM pid epoch yes)).length≤1000000):Ct Tryz.prog 87 [.t (.str (AH (eM pid epoch yes)))] [] (.tuple [.agg (Aj (A4 (eM pid epoch yes))),.t (.int .i64 0)]) []:=by
 have hb:(1≤pid∧pid≤8)∧(0≤epoch∧epoch≤100):=by simp only[B9,eM,Bool.and_eq_true]at hm;have h:=hm.2;simp at h;have h:=of_decide_eq_true h;omega
 have e1:((pid.toNat:Nat):Int)=pid:=by omega
 have e2:((epoch.toNat:Nat):Int)=epoch:=by omega
 have h0:(AH (eM pid epoch yes)).drop 0=B6 1++(B6 pid.toNat++(B6 epoch.toNat++(Da yes++[]))):=by rw[CA Ab];simp[AH,eM,Cu]
 have h1:=Ca h0
 have h2:=Ca h1
 have h3:=Ca h2
 have c0:=De _ _ 0 1 0 127 h0 hs O O O
 have c1:=De _ _ _ pid.toNat 0 8 h1 hs O O O
 have c2:=De _ _ _ epoch.toNat 0 100 h2 hs O O O
 have c3:=Lq _ _ _ yes h3 hs
 rw[e1]at c1
 rw[e2]at c2
 have he:0+(B6 1).length+(B6 pid.toNat).length+(B6 epoch.toNat).length+1=(AH (eM pid epoch yes)).length:=by rw[CA Ab];simp[AH,eM,Cu,Da];omega
 rw[he]at c3
 have c4:=JA (AH (eM pid epoch yes))
 have cm:=Gf (eM pid epoch yes) (by simp[eM];try omega) (by simp[eM,DG])
 rw[hm]at cm
 have hw8:IntKind.i8.wrap (((1:Nat)):Int)=1:=by simp[IntKind.wrap,IntKind.bits,IntKind.signed]
 refine ct0 Ac Tryz.func87 J false J J ?_
 repeat'(first|refine An Ac J J J J J ?_|refine Ae Ac J J J ?_|refine Ag ?_|refine Ah ?_|refine Ai Ac J J ?_|(refine AP J J J J J (ht:=fun h=>?_) (hf:=fun h=>?_)<;>try exact prn)|(refine Af J (ht:=fun h=>?_) (hf:=fun h=>?_)<;>try exact prn)|refine Al ?_|refine Ao ?_|refine Ar ?_|refine A7 Ac [] [(10,24)] J J J J J (J8 _) J J J J J ?_|refine A7 Ac [(24,1)] [(1,24)] J J J J J c0 J J J J J ?_|refine A7 Ac [(24,1)] [(1,24)] J J J J J c1 J J J J J ?_|refine A7 Ac [(24,1)] [(1,24)] J J J J J c2 J J J J J ?_|refine A7 Ac [(24,1)] [(1,24)] J J J J J c3 J J J J J ?_|refine A7 Ac [(24,1)] [(1,24)] J J J J J c4 J J J J J ?_|refine Ck Ac J J J J (cm) J J J ⟨B7 ?_,trivial⟩ ?_)
 all_goals try(exfalso;omega)
 all_goals first|exact⟨(by first|exact Sub.refl _|exact Sub.of_eq (by rw[hw8];rfl)),Sub.refl _,Sub.refl _,Sub.refl _,Sub.refl _,A6,Sub.refl _,Sub.refl _,Sub.refl _,Sub.refl _,Sub.refl _,Sub.refl _,Sub.refl _,Sub.refl _,Sub.refl _,Sub.refl _,Sub.refl _,A6,trivial⟩|refine Au J (AK ⟨B7 ?_,Sub.refl _,trivial⟩)
 all_goals exact⟨(by first|exact Sub.refl _|exact Sub.of_eq (by rw[hw8];rfl)),Sub.refl _,Sub.refl _,Sub.refl _,Sub.refl _,A6,Sub.refl _,Sub.refl _,Sub.refl _,Sub.refl _,Sub.refl _,Sub.refl _,Sub.refl _,Sub.refl _,Sub.refl _,Sub.refl _,Sub.refl _,A6,trivial⟩
theorem ZK (n:Int) (hm:B9 (eC n)=true) (hs:(AH (eC n)).length≤1000000):Ct Tryz.prog 87 [.t (.str (AH (eC n)))] [] (.tuple [.agg (Aj (A4 (eC n))),.t (.int .i64 0)]) []:=by
 have hb:0≤n∧n≤1048576:=by simp only[B9,eC,Bool.and_eq_true]at hm;have h:=hm.2;simp at h;exact of_decide_eq_true h
 have e1:((n.toNat:Nat):Int)=n:=by omega
 have h0:(AH (eC n)).drop 0=B6 2++(B6 n.toNat++[]):=by rw[CA Ab];simp[AH,eC,Cu]
 have h1:=Ca h0
 have c0:=De _ _ 0 2 0 127 h0 hs O O O
 have c1:=De _ _ _ n.toNat 0 1048576 h1 hs O O O
 rw[e1]at c1
 have he:0+(B6 2).length+(B6 n.toNat).length=(AH (eC n)).length:=by rw[CA Ab];simp[AH,eC,Cu];omega
 rw[he]at c1
 have c2:=JA (AH (eC n))
 have cm:=Gf (eC n) (by simp[eC];try omega) (by simp[eC,DG])
 rw[hm]at cm
 have hw8:IntKind.i8.wrap (((2:Nat)):Int)=2:=by simp[IntKind.wrap,IntKind.bits,IntKind.signed]
 refine ct0 Ac Tryz.func87 J false J J ?_
 repeat'(first|refine An Ac J J J J J ?_|refine Ae Ac J J J ?_|refine Ag ?_|refine Ah ?_|refine Ai Ac J J ?_|(refine AP J J J J J (ht:=fun h=>?_) (hf:=fun h=>?_)<;>try exact prn)|(refine Af J (ht:=fun h=>?_) (hf:=fun h=>?_)<;>try exact prn)|refine Al ?_|refine Ao ?_|refine Ar ?_|refine A7 Ac [] [(10,24)] J J J J J (J8 _) J J J J J ?_|refine A7 Ac [(24,1)] [(1,24)] J J J J J c0 J J J J J ?_|refine A7 Ac [(24,1)] [(1,24)] J J J J J c1 J J J J J ?_|refine A7 Ac [(24,1)] [(1,24)] J J J J J c2 J J J J J ?_|refine Ck Ac J J J J (cm) J J J ⟨B7 ?_,trivial⟩ ?_)
 all_goals try(exfalso;omega)
 all_goals first|exact⟨(by first|exact Sub.refl _|exact Sub.of_eq (by rw[hw8];rfl)),Sub.refl _,Sub.refl _,Sub.refl _,Sub.refl _,A6,Sub.refl _,Sub.refl _,Sub.refl _,Sub.refl _,Sub.refl _,Sub.refl _,Sub.refl _,Sub.refl _,Sub.refl _,Sub.refl _,Sub.refl _,A6,trivial⟩|refine Au J (AK ⟨B7 ?_,Sub.refl _,trivial⟩)
 all_goals exact⟨(by first|exact Sub.refl _|exact Sub.of_eq (by rw[hw8];rfl)),Sub.refl _,Sub.refl _,Sub.refl _,Sub.refl _,A6,Sub.refl _,Sub.refl _,Sub.refl _,Sub.refl _,Sub.refl _,Sub.refl _,Sub.refl _,Sub.refl _,Sub.refl _,Sub.refl _,Sub.refl _,A6,trivial⟩
theorem XZ (b:Batch) (next:Int) (hm:B9 (eY b true next)=true) (hs:(AH (eY b true next)).length≤1000000):Ct Tryz.prog 87 [.t (.str (AH (eY b true next)))] [] (.tuple [.agg (Aj (A4 (eY b true next))),.t (.int .i64 0)]) []:=by
 have hb:A1 b=true∧0≤next∧next≤1048576:=by simp only[B9,eY,Bool.and_eq_true]at hm;have h:=hm.2;simp at h;first|exact⟨h.1.1,of_decide_eq_true h.2⟩|exact⟨h.1,by omega,by omega⟩
 obtain⟨hb,hn1,hn2⟩:=hb
 have h0:(AH (eY b true next)).drop 0=B6 3++(CV b++(Da true++(B6 next.toNat++[]))):=by rw[CA Ab];simp[AH,eY,Cu]
 have h1:=Ca h0
 have h2:=Ca h1
 have c0:=De _ _ 0 3 0 127 h0 hs O O O
 have c1:=NL _ _ _ b h1 hs hb
 have c2:=Lq _ _ _ true h2 hs
 have h3:=Ca h2
 have hfl:(Da true).length=1:=rfl
 rw[hfl]at h3
 have e1:((next.toNat:Nat):Int)=next:=by omega
 have c3:=De _ _ _ next.toNat 0 1048576 h3 hs O O O
 rw[e1]at c3
 have he:0+(B6 3).length+(CV b).length+1+(B6 next.toNat).length=(AH (eY b true next)).length:=by rw[CA Ab];simp[AH,eY,Cu,Da];omega
 rw[he]at c3
 have c4:=JA (AH (eY b true next))
 have hbb:=AU hb
 have cm:=Gf (eY b true next) (by simp[eY];try omega) (by simp[eY,DG])
 rw[hm]at cm
 have hw8:IntKind.i8.wrap (((3:Nat)):Int)=3:=by simp[IntKind.wrap,IntKind.bits,IntKind.signed]
 refine ct0 Ac Tryz.func87 J false J J ?_
 repeat'(first|refine An Ac J J J J J ?_|refine Ae Ac J J J ?_|refine Ag ?_|refine Ah ?_|refine Ai Ac J J ?_|(refine AP J J J J J (ht:=fun h=>?_) (hf:=fun h=>?_)<;>try exact prn)|(refine Af J (ht:=fun h=>?_) (hf:=fun h=>?_)<;>try exact prn)|refine Al ?_|refine Ao ?_|refine Ar ?_|refine A7 Ac [] [(10,24)] J J J J J (J8 _) J J J J J ?_|refine A7 Ac [(24,1)] [(1,24)] J J J J J c0 J J J J J ?_|refine A7 Ac [(24,1)] [(1,24)] J J J J J c1 J J J J J ?_|refine A7 Ac [(24,1)] [(1,24)] J J J J J c2 J J J J J ?_|refine A7 Ac [(24,1)] [(1,24)] J J J J J c3 J J J J J ?_|refine A7 Ac [(24,1)] [(1,24)] J J J J J c4 J J J J J ?_|refine Ck Ac J J J J (cm) J J J ⟨B7 ?_,trivial⟩ ?_)
 all_goals try(exfalso;omega)
 all_goals first|exact⟨(by first|exact Sub.refl _|exact Sub.of_eq (by rw[hw8];rfl)),Sub.refl _,Sub.refl _,Sub.refl _,Sub.refl _,Sub.refl _,Sub.refl _,Sub.refl _,Sub.refl _,Sub.refl _,Sub.refl _,Sub.refl _,Sub.refl _,Sub.refl _,Sub.refl _,Sub.refl _,Sub.refl _,A6,trivial⟩|refine Au J (AK ⟨B7 ?_,Sub.refl _,trivial⟩)
 all_goals exact⟨(by first|exact Sub.refl _|exact Sub.of_eq (by rw[hw8];rfl)),Sub.refl _,Sub.refl _,Sub.refl _,Sub.refl _,Sub.refl _,Sub.refl _,Sub.refl _,Sub.refl _,Sub.refl _,Sub.refl _,Sub.refl _,Sub.refl _,Sub.refl _,Sub.refl _,Sub.refl _,Sub.refl _,A6,trivial⟩
theorem Ya (b:Batch) (hm:B9 (eY b false 0)=true) (hs:(AH (eY b false 0)).length≤1000000):Ct Tryz.prog 87 [.t (.str (AH (eY b false 0)))] [] (.tuple [.agg (Aj (A4 (eY b false 0))),.t (.int .i64 0)]) []:=by
 have hb:A1 b=true∧0≤(0:Int)∧(0:Int)≤1048576:=by simp only[B9,eY,Bool.and_eq_true]at hm;have h:=hm.2;simp at h;first|exact⟨h.1.1,of_decide_eq_true h.2⟩|exact⟨h.1,by omega,by omega⟩
 obtain⟨hb,hn1,hn2⟩:=hb
 have h0:(AH (eY b false 0)).drop 0=B6 3++(CV b++(Da false++[])):=by rw[CA Ab];simp[AH,eY,Cu]
 have h1:=Ca h0
 have h2:=Ca h1
 have c0:=De _ _ 0 3 0 127 h0 hs O O O
 have c1:=NL _ _ _ b h1 hs hb
 have c2:=Lq _ _ _ false h2 hs
 have he:0+(B6 3).length+(CV b).length+1=(AH (eY b false 0)).length:=by rw[CA Ab];simp[AH,eY,Cu,Da];omega
 rw[he]at c2
 have c4:=JA (AH (eY b false 0))
 have hbb:=AU hb
 have cm:=Gf (eY b false 0) (by simp[eY];try omega) (by simp[eY,DG])
 rw[hm]at cm
 have hw8:IntKind.i8.wrap (((3:Nat)):Int)=3:=by simp[IntKind.wrap,IntKind.bits,IntKind.signed]
 refine ct0 Ac Tryz.func87 J false J J ?_
 repeat'(first|refine An Ac J J J J J ?_|refine Ae Ac J J J ?_|refine Ag ?_|refine Ah ?_|refine Ai Ac J J ?_|(refine AP J J J J J (ht:=fun h=>?_) (hf:=fun h=>?_)<;>try exact prn)|(refine Af J (ht:=fun h=>?_) (hf:=fun h=>?_)<;>try exact prn)|refine Al ?_|refine Ao ?_|refine Ar ?_|refine A7 Ac [] [(10,24)] J J J J J (J8 _) J J J J J ?_|refine A7 Ac [(24,1)] [(1,24)] J J J J J c0 J J J J J ?_|refine A7 Ac [(24,1)] [(1,24)] J J J J J c1 J J J J J ?_|refine A7 Ac [(24,1)] [(1,24)] J J J J J c2 J J J J J ?_|refine A7 Ac [(24,1)] [(1,24)] J J J J J c4 J J J J J ?_|refine Ck Ac J J J J (cm) J J J ⟨B7 ?_,trivial⟩ ?_)
 all_goals try(exfalso;omega)
 all_goals first|exact⟨(by first|exact Sub.refl _|exact Sub.of_eq (by rw[hw8];rfl)),Sub.refl _,Sub.refl _,Sub.refl _,Sub.refl _,Sub.refl _,Sub.refl _,Sub.refl _,Sub.refl _,Sub.refl _,Sub.refl _,Sub.refl _,Sub.refl _,Sub.refl _,Sub.refl _,Sub.refl _,Sub.refl _,A6,trivial⟩|refine Au J (AK ⟨B7 ?_,Sub.refl _,trivial⟩)
 all_goals exact⟨(by first|exact Sub.refl _|exact Sub.of_eq (by rw[hw8];rfl)),Sub.refl _,Sub.refl _,Sub.refl _,Sub.refl _,Sub.refl _,Sub.refl _,Sub.refl _,Sub.refl _,Sub.refl _,Sub.refl _,Sub.refl _,Sub.refl _,Sub.refl _,Sub.refl _,Sub.refl _,Sub.refl _,A6,trivial⟩
theorem ZH (pid epoch next:Int) (hm:B9 (eX pid epoch next)=true) (hs:(AH (eX pid epoch next)).length≤1000000):Ct Tryz.prog 87 [.t (.str (AH (eX pid epoch next)))] [] (.tuple [.agg (Aj (A4 (eX pid epoch next))),.t (.int .i64 0)]) []:=by
 have hb:((1≤pid∧pid≤8)∧(0≤epoch∧epoch≤100))∧0≤next∧next≤1048576:=by simp only[B9,eX,Bool.and_eq_true]at hm;have h:=hm.2;simp at h;have h1:=of_decide_eq_true h.1;have h2:=of_decide_eq_true h.2;omega
 have e1:((pid.toNat:Nat):Int)=pid:=by omega
 have e2:((epoch.toNat:Nat):Int)=epoch:=by omega
 have e3:((next.toNat:Nat):Int)=next:=by omega
 have h0:(AH (eX pid epoch next)).drop 0=B6 4++(B6 pid.toNat++(B6 epoch.toNat++(B6 next.toNat++[]))):=by rw[CA Ab];simp[AH,eX,Cu]
 have h1:=Ca h0
 have h2:=Ca h1
 have h3:=Ca h2
 have c0:=De _ _ 0 4 0 127 h0 hs O O O
 have c1:=De _ _ _ pid.toNat 0 8 h1 hs O O O
 have c2:=De _ _ _ epoch.toNat 0 100 h2 hs O O O
 have c3:=De _ _ _ next.toNat 0 1048576 h3 hs O O O
 rw[e1]at c1
 rw[e2]at c2
 rw[e3]at c3
 have he:0+(B6 4).length+(B6 pid.toNat).length+(B6 epoch.toNat).length+(B6 next.toNat).length=(AH (eX pid epoch next)).length:=by rw[CA Ab];simp[AH,eX,Cu];omega
 rw[he]at c3
 have c4:=JA (AH (eX pid epoch next))
 have cm:=Gf (eX pid epoch next) (by simp[eX];try omega) (by simp[eX,DG])
 rw[hm]at cm
 have hw8:IntKind.i8.wrap (((4:Nat)):Int)=4:=by simp[IntKind.wrap,IntKind.bits,IntKind.signed]
 refine ct0 Ac Tryz.func87 J false J J ?_
 repeat'(first|refine An Ac J J J J J ?_|refine Ae Ac J J J ?_|refine Ag ?_|refine Ah ?_|refine Ai Ac J J ?_|(refine AP J J J J J (ht:=fun h=>?_) (hf:=fun h=>?_)<;>try exact prn)|(refine Af J (ht:=fun h=>?_) (hf:=fun h=>?_)<;>try exact prn)|refine Al ?_|refine Ao ?_|refine Ar ?_|refine A7 Ac [] [(10,24)] J J J J J (J8 _) J J J J J ?_|refine A7 Ac [(24,1)] [(1,24)] J J J J J c0 J J J J J ?_|refine A7 Ac [(24,1)] [(1,24)] J J J J J c1 J J J J J ?_|refine A7 Ac [(24,1)] [(1,24)] J J J J J c2 J J J J J ?_|refine A7 Ac [(24,1)] [(1,24)] J J J J J c3 J J J J J ?_|refine A7 Ac [(24,1)] [(1,24)] J J J J J c4 J J J J J ?_|refine Ck Ac J J J J (cm) J J J ⟨B7 ?_,trivial⟩ ?_)
 all_goals try(exfalso;omega)
 all_goals first|exact⟨(by first|exact Sub.refl _|exact Sub.of_eq (by rw[hw8];rfl)),Sub.refl _,Sub.refl _,Sub.refl _,Sub.refl _,A6,Sub.refl _,Sub.refl _,Sub.refl _,Sub.refl _,Sub.refl _,Sub.refl _,Sub.refl _,Sub.refl _,Sub.refl _,Sub.refl _,Sub.refl _,A6,trivial⟩|refine Au J (AK ⟨B7 ?_,Sub.refl _,trivial⟩)
 all_goals exact⟨(by first|exact Sub.refl _|exact Sub.of_eq (by rw[hw8];rfl)),Sub.refl _,Sub.refl _,Sub.refl _,Sub.refl _,A6,Sub.refl _,Sub.refl _,Sub.refl _,Sub.refl _,Sub.refl _,Sub.refl _,Sub.refl _,Sub.refl _,Sub.refl _,Sub.refl _,Sub.refl _,A6,trivial⟩
end Go.Proofs.YtpdmaenhenfofaaGreatDoor
namespace Go.Proofs.YtpdmaenhenfofaaGreatDoor
open Go.Am
attribute [local irreducible] Decidable.decide
set_option maxRecDepth 100000
set_option maxHeartbeats 1000000
inductive WE:Entry→Prop
 |D (b:Batch):WE (eD b)
 |M (pid epoch:Int) (yes:Bool):WE (eM pid epoch yes)
 |C (n:Int):WE (eC n)
 |Y1 (b:Batch) (next:Int):WE (eY b true next)
 |Y0 (b:Batch):WE (eY b false 0)
 |X (pid epoch next:Int):WE (eX pid epoch next)
theorem ZL (x:Entry) (h:WE x) (hm:B9 x=true):Ct Tryz.prog 87 [.t (.str (AH x))] [] (.tuple [.agg (Aj (A4 x)),.t (.int .i64 0)]) []:=by
 have hl:=Fr hm
 cases h with
 |D b=>exact ZJ b hm O
 |M pid epoch yes=>exact ZI pid epoch yes hm O
 |C n=>exact ZK n hm O
 |Y1 b next=>exact XZ b next hm O
 |Y0 b=>exact Ya b hm O
 |X pid epoch next=>exact ZH pid epoch next hm O
theorem YC (x rest:Bs) (hx:x.length≤1024) (hl:(BB x++rest).length≤1000000):Ct Tryz.prog 138 [.t (.str (BB x++rest))] [] (.tuple [.t (.str x),.t (.int .i64 ((x.length+4:Nat):Int)),.t (.bool true)]) []:=by
 have hf:BB x++rest=UInt8.ofNat (x.length % 256)::UInt8.ofNat (x.length/256)::0::0::(x++rest):=by simp[BB]
 have hlen:(BB x++rest).length=x.length+4+rest.length:=by rw[hf];simp;omega
 have r0:(BB x++rest)[0]?=some (UInt8.ofNat (x.length % 256)):=by rw[hf];rfl
 have r1:(BB x++rest)[1]?=some (UInt8.ofNat (x.length/256)):=by rw[hf];rfl
 have r2:(BB x++rest)[2]?=some 0:=by rw[hf];rfl
 have r3:(BB x++rest)[3]?=some 0:=by rw[hf];rfl
 have u0:(UInt8.ofNat (x.length % 256)).toNat=x.length % 256:=by simp[UInt8.toNat_ofNat']
 have u1:(UInt8.ofNat (x.length/256)).toNat=x.length/256:=by simp[UInt8.toNat_ofNat'];omega
 have hsl:((BB x++rest).drop 4).take (4+x.length-4)=x:=by
  rw[hf]
  simp only[List.drop_succ_cons,List.drop_zero]
  rw[show 4+x.length-4=x.length by omega,List.take_left]
 generalize BB x++rest=s at*
 generalize UInt8.ofNat (x.length % 256)=c0 at*
 generalize UInt8.ofNat (x.length/256)=c1 at*
 have p8:(2:Int)^min (Int.toNat 8) IntKind.i64.bits=256:=by simp[IntKind.bits]
 have p16:(2:Int)^min (Int.toNat 16) IntKind.i64.bits=65536:=by simp[IntKind.bits]
 have p24:(2:Int)^min (Int.toNat 24) IntKind.i64.bits=16777216:=by simp[IntKind.bits]
 have z0:UInt8.toNat 0=0:=rfl
 have a0:IntKind.i64.wrap (c0.toNat:Int)=c0.toNat:=A0 O O
 have a1:IntKind.i64.wrap (c1.toNat:Int)=c1.toNat:=A0 O O
 have az:IntKind.i64.wrap ((UInt8.toNat 0:Nat):Int)=0:=by rw[z0,A0 O O];rfl
 have b1:IntKind.i64.wrap (IntKind.i64.wrap (c1.toNat:Int)*2^min (Int.toNat 8) IntKind.i64.bits)=c1.toNat*256:=by rw[a1,p8,A0 O O]
 have b2:IntKind.i64.wrap (IntKind.i64.wrap ((UInt8.toNat 0:Nat):Int)*2^min (Int.toNat 16) IntKind.i64.bits)=0:=by rw[az,p16,A0 O O];rfl
 have b3:IntKind.i64.wrap (IntKind.i64.wrap ((UInt8.toNat 0:Nat):Int)*2^min (Int.toNat 24) IntKind.i64.bits)=0:=by rw[az,p24,A0 O O];rfl
 have hall:IntKind.i64.wrap (IntKind.i64.wrap (IntKind.i64.wrap (IntKind.i64.wrap (c0.toNat:Int)+IntKind.i64.wrap (IntKind.i64.wrap (c1.toNat:Int)*2^min (Int.toNat 8) IntKind.i64.bits))+IntKind.i64.wrap (IntKind.i64.wrap ((UInt8.toNat 0:Nat):Int)*2^min (Int.toNat 16) IntKind.i64.bits))+IntKind.i64.wrap (IntKind.i64.wrap ((UInt8.toNat 0:Nat):Int)*2^min (Int.toNat 24) IntKind.i64.bits))=(x.length:Int):=by
  have g1:IntKind.i64.wrap ((c0.toNat:Int)+(c1.toNat:Int)*256)=(c0.toNat:Int)+(c1.toNat:Int)*256:=A0 O O
  simp only[b1,b2,b3,a0,Int.add_zero,g1];omega
 have hw4:IntKind.i64.wrap ((s.length:Int)-4)=(s.length:Int)-4:=A0 O O
 have hw5:IntKind.i64.wrap (4+IntKind.i64.wrap (IntKind.i64.wrap (IntKind.i64.wrap (IntKind.i64.wrap (c0.toNat:Int)+IntKind.i64.wrap (IntKind.i64.wrap (c1.toNat:Int)*2^min (Int.toNat 8) IntKind.i64.bits))+IntKind.i64.wrap (IntKind.i64.wrap ((UInt8.toNat 0:Nat):Int)*2^min (Int.toNat 16) IntKind.i64.bits))+IntKind.i64.wrap (IntKind.i64.wrap ((UInt8.toNat 0:Nat):Int)*2^min (Int.toNat 24) IntKind.i64.bits)))=((4+x.length:Nat):Int):=by rw[hall,A0 O O];omega
 refine ct0 Ac Tryz.func138 J false J J ?_
 repeat'(first|refine Ae Ac J J J ?_|refine Ag ?_|refine Ah ?_|refine Ai Ac J J ?_|(refine AP J J J J J (ht:=fun h=>?_) (hf:=fun h=>?_)<;>try exact prn)|(refine Af J (ht:=fun h=>?_) (hf:=fun h=>?_)<;>try exact prn)|refine Ao ?_|refine Ar ?_|refine A9 (id:=3) (m:=17) Ac Y J J J J ?_|refine AA J J J J ?_|refine Ln (kc:=0) J J J J J J r0 J ?_|refine Ln (kc:=1) J J J J J J r1 J ?_|refine Ln (kc:=2) J J J J J J r2 J ?_|refine Ln (kc:=3) J J J J J J r3 J ?_|refine ND Ac (l:=4) (h:=4+x.length) J J J J (Do J hw5) (Do J J) O O hsl J ?_)
 all_goals try(exfalso;omega)
 all_goals exact Au J (Sub.of_eq (by rw[hw5,Nat.add_comm]))
theorem Afa (xs:List Bs) (hx: ∀x∈xs,x.length≤1024) (hl:(xs.flatMap BB).length≤1000000):Ct Tryz.prog 84 [.t (.str (xs.flatMap BB))] [] (.tuple [.t (.slice .any 1 (xs.map DE)),.t (.int .i64 0)]) []:=by
 generalize hS:xs.flatMap BB=S at*
 have hfl: ∀x:Bs,(BB x).length=x.length+4:=fun x=>by simp[BB]
 have hsp: ∀{i:Nat} {x:Bs},xs[i]?=some x→S=(xs.take i).flatMap BB++(BB x++(xs.drop (i+1)).flatMap BB):=fun{i x} h=>by
  have e:xs=xs.take i++x::xs.drop (i+1):=by rw[←BE h,List.take_append_drop]
  rw[←hS]
  conv=>lhs;rw[e]
  simp
 have hsn: ∀{i:Nat} {x:Bs},xs[i]?=some x→((xs.take (i+1)).flatMap BB).length=((xs.take i).flatMap BB).length+(x.length+4):=fun{i x} h=>by rw[AL h];simp[hfl]
 have hxl:xs.length≤1000000:=by
  have: ∀l:List Bs,l.length≤(l.flatMap BB).length:=fun l=>by
   induction l with
   |nil=>simp
   |cons a r ih=>simp only[List.flatMap_cons,List.length_append,List.length_cons,hfl];omega
  have:=this xs
  rw[hS]at this;omega
 refine ct0 Ac Tryz.func84 J false J J ?_
 repeat'(first|refine Ae Ac J J J ?_|refine Ag ?_|refine Ah ?_|refine Ai Ac J J ?_|refine Al ?_)
 refine Tr.nilRow 4 26 1 J J ?_
 refine AM (ι:=Nat) (fun i=>i≤xs.length) (fun i=>[(0,.t (.str S)),(4,.row 52 1 0 ((xs.take i).map DE).length),(5,.t (.int .i64 (((xs.take i).flatMap BB).length:Int)))]) (fun i=>[(52,.grow 1 ((xs.take i).map DE))]) (fun i=>xs.length-i) 0 Z ?_ ?_
 ·exact AR [] (Ad J J (Ad J J (Ad J J Aq))) J
 rintro i hi
 by_cases hlt:i<xs.length
 ·have hr:xs[i]?=some xs[i]:=List.getElem?_eq_getElem hlt
  have hxx:=hx xs[i] (List.getElem_mem hlt)
  generalize xs[i]=x at hr hxx
  have h1:=hsp hr
  have h2:=hsn hr
  have h3:=congrArg List.length h1
  rw[List.length_append,List.length_append,hfl]at h3
  have c1:=YC x ((xs.drop (i+1)).flatMap BB) hxx (by rw[List.length_append,hfl];omega)
  have hdr:(S.drop ((xs.take i).flatMap BB).length).take (S.length-((xs.take i).flatMap BB).length)=BB x++(xs.drop (i+1)).flatMap BB:=by
   conv=>lhs;rw[h1]
   rw[List.drop_left,List.take_of_length_le Z]
  have hw:IntKind.i64.wrap (((((xs.take i).flatMap BB).length:Nat):Int)+((x.length+4:Nat):Int))=((((xs.take (i+1)).flatMap BB).length:Nat):Int):=by(rw[A0 O O];try omega)
  repeat'(first|refine An Ac J J J J J ?_|refine Ae Ac J J J ?_|refine Ag ?_|refine Ah ?_|refine Ai Ac J J ?_|(refine Af J (ht:=fun h=>?_) (hf:=fun h=>?_)<;>try exact prn)|refine Al ?_|refine Ao ?_|refine AN Ac J J J J J J J J J J J J J J (by simp[AW];omega) ?_|refine Ak Ac J J J J J J J (c1) J J ?_|refine ND Ac (l:=((xs.take i).flatMap BB).length) (h:=S.length) J J J J FM (Do J J) O O hdr J ?_)
  all_goals try(exfalso;omega)
  all_goals refine AF (i+1) hlt O [] (Ad J J (Ad J ?_ (Ad J (by rw[hw]) Aq))) ?_
  all_goals rw[AL hr,List.map_append]
  all_goals rfl
 ·have hin:i=xs.length:=by omega
  subst hin
  rw[List.take_length,hS]
  have hw0:IntKind.i64.wrap ((S.length:Int)-(S.length:Int))=0:=by rw[A0 O O];omega
  repeat'(first|refine Ae Ac J J J ?_|refine Ag ?_|refine Ah ?_|refine Ai Ac J J ?_|(refine Af J (ht:=fun h=>?_) (hf:=fun h=>?_)<;>try exact prn)|refine AB ?_|refine Ar ?_)
  all_goals try(exfalso;omega)
  all_goals refine Au J (Sub.of_eq ?_)
  all_goals rw[hw0]
  all_goals simp[BA]
  all_goals try exact List.take_of_length_le Z
theorem SI (l:List Entry) (hw: ∀x∈l,WE x∧B9 x=true) (hl:l.length≤1000000):Ct Tryz.prog 48 [.t (.slice .any 1 ((l.map AH).map DE))] [] (.tuple [.t (.slice .any 18 (l.map A4)),.t (.int .i64 0)]) []:=by
 have hlm:((l.map AH).map DE).length=l.length:=by simp
 refine ct0 Ac Tryz.func48 J false J J ?_
 repeat'(first|refine Ae Ac J J J ?_|refine Ag ?_|refine Ah ?_|refine Ai Ac J J ?_|refine Al ?_)
 refine Tr.nilRow 4 28 18 J J ?_
 refine AM (ι:=Nat) (fun i=>i≤l.length) (fun i=>[(0,.t (.slice .any 1 ((l.map AH).map DE))),(4,.row 56 18 0 ((l.take i).map A4).length),(5,.t (.int .i64 i))]) (fun i=>[(56,.grow 18 ((l.take i).map A4))]) (fun i=>l.length-i) 0 Z ?_ ?_
 ·exact AR [] (Ad J J (Ad J J (Ad J J Aq))) J
 rintro i hi
 by_cases hlt:i<l.length
 ·have hr:l[i]?=some l[i]:=List.getElem?_eq_getElem hlt
  obtain⟨h1,h2⟩:=hw l[i] (List.getElem_mem hlt)
  generalize l[i]=r at hr h1 h2
  have hr2:(l.map AH)[i]?=some (AH r):=by simp[hr]
  have cr:=ZL r h1 h2
  repeat'(first|refine An Ac J J J J J ?_|refine Ae Ac J J J ?_|refine Ag ?_|refine Ah ?_|refine Ai Ac J J ?_|(refine Af J (ht:=fun h=>?_) (hf:=fun h=>?_)<;>try exact prn)|refine Al ?_|refine Ao ?_|refine AD Ac J J J J J J J (A2 Aa) J ?_|refine AN Ac J J J J J J J J J J J J J J (by simp[AW];omega) ?_|refine Ak Ac J J J J J J J (cr) J J ?_)
  all_goals try(exfalso;omega)
  all_goals refine AF (i+1) hlt O [6] (Ad J J (Ad J ?_ (Ad J (by rw[A0 O O];rfl) Aq))) ?_
  all_goals rw[AL hr,List.map_append]
  all_goals rfl
 ·have hin:i=l.length:=by omega
  subst hin
  rw[List.take_length]
  repeat'(first|refine Ae Ac J J J ?_|refine Ag ?_|refine Ah ?_|refine Ai Ac J J ?_|(refine Af J (ht:=fun h=>?_) (hf:=fun h=>?_)<;>try exact prn)|refine AB ?_|refine Ar ?_)
  all_goals refine Au J (Sub.of_eq ?_)
  all_goals simp[BA]
  all_goals try exact List.take_of_length_le Z
theorem Yq (fs:List Fil) (name:Bs) (xs:List Bs) (hl:fs.length≤1000000) (hg:H7 fs name=true∧(H8 fs name).b=xs.flatMap BB) (hx: ∀x∈xs,x.length≤1024) (hs:(xs.flatMap BB).length≤1000000):Ct Tryz.prog 46 [.agg (Aj (CC fs)),.t (.str name)] [] (.tuple [.t (.slice .any 1 (xs.map DE)),.t (.int .i64 0)]) []:=by
 have cg:=OD fs name hl
 rw[hg.1]at cg
 have ca:=Afa xs hx hs
 obtain⟨h1,h2⟩:=hg
 generalize H8 fs name=G at cg h2
 rcases G with⟨nm,b,sure⟩
 simp only at h2
 subst h2
 refine ct0 Ac Tryz.func46 J false J J ?_
 repeat'(first|refine An Ac J J J J J ?_|refine Ae Ac J J J ?_|refine Ag ?_|refine Ah ?_|refine Ai Ac J J ?_|(refine Af J (ht:=fun h=>?_) (hf:=fun h=>?_)<;>try exact prn)|refine Ao ?_|refine Ar ?_|refine Ak Ac J J J J J J J (cg) J J ?_|refine Ak Ac J J J J J J J (ca) J J ?_)
 all_goals exact Au J (Sub.of_eq J)
theorem Yr (fs:List Fil) (name:Bs) (hl:fs.length≤1000000) (hg:H7 fs name=false):Ct Tryz.prog 46 [.agg (Aj (CC fs)),.t (.str name)] [] (.tuple [.t (.slice .any 1 []),.t (.int .i64 0)]) []:=by
 have cg:=OD fs name hl
 rw[hg]at cg
 refine ct0 Ac Tryz.func46 J false J J ?_
 repeat'(first|refine An Ac J J J J J ?_|refine Ae Ac J J J ?_|refine Ag ?_|refine Ah ?_|refine Ai Ac J J ?_|(refine Af J (ht:=fun h=>?_) (hf:=fun h=>?_)<;>try exact prn)|refine Ar ?_|refine Ak Ac J J J J J J J (cg) J J ?_)
 all_goals exact Au J (AK ⟨A6,Sub.refl _,trivial⟩)
end Go.Proofs.YtpdmaenhenfofaaGreatDoor
