/- Contracts and laws, joined: Pa, Pb, Pc, Pd, Pe, Pf. No condition beside those that each theorem names. -/
import Derived.Test.YtpdmaenhenfofaaGreatDoorZJ2
set_option linter.unusedVariables false
set_option linter.unusedSimpArgs false
namespace Go.Proofs.YtpdmaenhenfofaaGreatDoor
open Go.Am
attribute [local irreducible] Decidable.decide
set_option maxRecDepth 100000
set_option maxHeartbeats 1000000
theorem Aix (n:Nat) (h:n<9223372036854775808):(BitVec.ofInt 64 (n:Int)&&&BitVec.ofInt 64 127).toNat=n % 128:=by
 rw[BitVec.toNat_and]
 have h1:(BitVec.ofInt 64 (n:Int)).toNat=n:=by simp[BitVec.toNat_ofInt];omega
 have h2:(BitVec.ofInt 64 127).toNat=127:=rfl
 rw[h1,h2]
 exact Nat.and_two_pow_sub_one_eq_mod n 7
theorem Al2 (n:Nat) (h:n<128):(BitVec.ofInt 64 (n:Int)|||BitVec.ofInt 64 128).toNat=128+n:=by
 rw[BitVec.toNat_or]
 have h1:(BitVec.ofInt 64 (n:Int)).toNat=n:=by simp[BitVec.toNat_ofInt];omega
 have h2:(BitVec.ofInt 64 128).toNat=128:=rfl
 rw[h1,h2]
 have:=Nat.two_pow_add_eq_or_of_lt (i:=7) (b:=n) O 1
 simp at this
 rw[Nat.or_comm];exact this.symm
theorem Alv (n:Nat):(n:Int).fdiv (2^7)=((n/128:Nat):Int):=by
 have h8:(2:Int)^7=128:=by decide
 rw[h8,Int.fdiv_eq_ediv_of_nonneg _ Ab];omega
theorem Aam {n:Nat} (h:n<9223372036854775808):T.int .u8 (IntKind.u8.wrap (IntKind.i64.wrap (((BitVec.ofInt 64 (IntKind.i64.wrap (((BitVec.ofInt 64 (n:Int)&&&BitVec.ofInt 64 127).toNat:Nat):Int))|||BitVec.ofInt 64 128).toNat:Nat):Int)))=T.int .u8 ((UInt8.ofNat (128+n % 128)).toNat:Int):=by
 have hw:IntKind.i64.wrap ((n % 128:Nat):Int)=((n % 128:Nat):Int):=A0 O O
 rw[Aix n h,hw,Al2 (n % 128) O]
 exact Zz (by rw[A0 O O]) O
theorem Ah9 (n:Int):Ct Tryz.prog 223 [.t (.int .i64 n)] [] (.t (.int .i64 (if 0≤n∧n≤1099511627776 then((B6 n.toNat).length:Int)else 0))) []:=by
 refine ct0 Ac Tryz.func223 J false J J ?_
 repeat'(first|refine Ae Ac J J J ?_|refine Ag ?_|refine Ah ?_|refine Ai Ac J J ?_|(refine AP J J J J J (ht:=fun h=>?_) (hf:=fun h=>?_)<;>try exact prn)|(refine Af J (ht:=fun h=>?_) (hf:=fun h=>?_)<;>try exact prn)|refine Al ?_|refine Ao ?_|refine Ar ?_)
 ·refine Au J (Sub.of_eq ?_);rw[if_neg O]
 ·obtain⟨n,rfl⟩:=Int.eq_ofNat_of_zero_le (by omega:0≤n)
  rw[if_pos ⟨by omega,by omega⟩]
  have hl:=Cf (n:=n) O
  refine AM (ι:=Nat×Nat) (fun p=>p.1≤1099511627776∧p.2+(B6 p.1).length=(B6 n).length+1) (fun p=>[(0,.t (.int .i64 p.1)),(3,.t (.int .i64 p.2))]) (fun _=>[]) (fun p=>p.1) (n,1) ⟨by simp;omega,by simp;omega⟩ ?_ ?_
  ·exact AR [] (Ad J J (Ad J J Aq)) J
  rintro⟨m,s⟩ ⟨hm,he⟩
  simp only at hm he
  repeat'(first|refine Ae Ac J J J ?_|refine Ag ?_|refine Ah ?_|refine Ai Ac J J ?_|(refine Af J (ht:=fun h=>?_) (hf:=fun h=>?_)<;>try exact prn)|refine Al ?_|refine Ao ?_|refine AB ?_|refine Ar ?_)
  ·rw[Gb (n:=m) O,List.length_cons]at he
   refine AF (m/128,s+1) ⟨by simp;omega,by simp;omega⟩ (by simp;omega) [] (Ad J (congrArg (fun z=>AV.t (T.int .i64 z)) (Alv m)) (Ad J ?_ Aq)) J
   rw[A0 (by simp;omega) (by simp;omega)];rfl
  ·rw[CA (n:=m) O]at he
   refine Au J (Sub.of_eq ?_)
   simp at he⊢;omega
 ·refine Au J (Sub.of_eq ?_);rw[if_neg O]
theorem Ac4 (b:Bs) (n:Nat) (hn:n≤1099511627776) (hb:b.length≤1000000000):
  Ct Tryz.prog 224 [.row 1 1 0 (b.map Bn).length,.t (.int .i64 n)] [(1,.grow 1 (b.map Bn))] (.row 1 1 0 ((b++B6 n).map Bn).length) [(1,.grow 1 ((b++B6 n).map Bn))]:=by
 refine ct1 Ac Tryz.func224 J J ?_
 have hl:=Cf hn
 repeat'(first|refine Ae Ac J J J ?_|refine Ag ?_|refine Ah ?_|refine Ai Ac J J ?_|refine Al ?_)
 refine AM (ι:=Nat×Bs) (fun p=>p.1≤1099511627776∧p.2++B6 p.1=b++B6 n) (fun p=>[(1,.t (.int .i64 p.1)),(0,.row 1 1 0 (p.2.map Bn).length)]) (fun p=>[(1,.grow 1 (p.2.map Bn))]) (fun p=>p.1) (n,b) ⟨hn,J⟩ ?_ ?_
 ·exact AR [] (Ad J J (Ad J J Aq)) J
 rintro⟨m,out⟩ ⟨hm,he⟩
 simp only at hm he
 have hol:out.length≤b.length+6:=by have:=congrArg List.length he;simp at this;omega
 repeat'(first|refine An Ac J J J J J ?_|refine Ae Ac J J J ?_|refine Ag ?_|refine Ah ?_|refine Ai Ac J J ?_|(refine Af J (ht:=fun h=>?_) (hf:=fun h=>?_)<;>try exact prn)|refine Al ?_|refine Ao ?_|refine AB ?_|refine Ar ?_|refine AN Ac J J J J J J J J J J J J J J (by simp[AW];omega) ?_)
 ·refine AF (m/128,out++[UInt8.ofNat (128+m % 128)]) ⟨by simp;omega,?_⟩ (by simp;omega) [] (Ad J (congrArg (fun z=>AV.t (T.int .i64 z)) (Alv m)) (Ad J (by simp[AW]) Aq)) ?_
  ·simp only;rw[←he,Gb (n:=m) O];simp
  ·have e1:=Aam (n:=m) O
   simp only[List.map_append,List.map_cons,List.map_nil]
   exact congrArg (fun z=>[(1,Blk.grow 1 (List.map Bn out++[[z]]))]) e1
 ·have e2:out++[UInt8.ofNat m]=b++B6 n:=by rw[←he,CA O]
  have e1:=Zz (n:=(m:Int)) (m:=m) J O
  refine BR [] J J ?_ (Sub.of_eq ?_)
  ·rw[←e2];simp[AW,ti5,Bn,FZ,DO,e1]
  ·rw[←e2];simp[AW]
end Go.Proofs.YtpdmaenhenfofaaGreatDoor
namespace Go.Proofs.YtpdmaenhenfofaaGreatDoor
open Go.Am
attribute [local irreducible] Decidable.decide
set_option maxRecDepth 100000
set_option maxHeartbeats 1000000
theorem Zx (n:Nat):1≤(B6 n).length:=by
 by_cases h:n<128
 ·rw[CA h];simp
 ·rw[Gb h];simp
theorem Adu (n:Nat) (hn:n≤1099511627776):Ct Tryz.prog 223 [.t (.int .i64 n)] [] (.t (.int .i64 ((B6 n).length:Int))) []:=by
 have:=Ah9 n
 rw[if_pos ⟨by omega,by omega⟩]at this
 exact this
theorem WO (b:Bs) (n:Nat) (hn:n≤1099511627776) (hb:b.length≤1000000000):
  Ct Tryz.prog 221 [.t (.slice .any 1 (b.map Bn)),.t (.int .i64 n)] [] (.tuple [.row 36 1 0 ((b++B6 n).map Bn).length,.t (.int .i64 0)]) [(36,.grow 1 ((b++B6 n).map Bn))]:=by
 refine ct1 Ac Tryz.func221 J J ?_
 have hl:=Cf hn
 have hl1:=Zx n
 have hlm:(b.map Bn).length=b.length:=List.length_map ..
 have hcn:IntKind.i64.wrap (((b.map Bn).length:Int)+((B6 n).length:Int))=(((b.map Bn).length+(B6 n).length:Nat):Int):=by
  rw[A0 O O];omega
 repeat'(first|refine Ae Ac J J J ?_|refine Ag ?_|refine Ah ?_|refine Ai Ac J J ?_|(refine Af J (ht:=fun h=>?_) (hf:=fun h=>?_)<;>try exact prn)|refine Ao ?_|refine Ar ?_|refine Ak Ac J J J J J J J (Adu n hn) J J ?_|refine NE Ac J J J J J J J J hcn J J O O ?_|refine Ahp Ac J J J J J J J J J J Z Z J ?_|refine A7 Ac [(36,1)] [(1,36)] J J J J J (Ac4 b n hn hb) J J J J J ?_)
 refine BR [] J J J (Sub.refl _)
theorem Zy (b:Bs) (n:Int) (h0:0≤n) (hn:n≤1099511627776) (hb:b.length≤1000000000):
  Ct Tryz.prog 221 [.t (.slice .any 1 (b.map Bn)),.t (.int .i64 n)] [] (.tuple [.t (.slice .any 1 ((b++B6 n.toNat).map Bn)),.t (.int .i64 0)]) []:=by
 obtain⟨m,rfl⟩:=Int.eq_ofNat_of_zero_le h0
 exact(WO b m O hb).freeze2
theorem OI (b:Bs) (n:Int) (h0:0≤n) (hn:n≤1099511627776) (hb:b.length≤1000000000):
  Ct Tryz.prog 215 [.t (.slice .any 1 (b.map Bn)),.t (.int .i64 n)] [] (.tuple [.t (.slice .any 1 ((b++B6 n.toNat).map Bn)),.t (.int .i64 0)]) []:=by
 refine ct0 Ac Tryz.func215 J false J J ?_
 repeat'(first|refine Ae Ac J J J ?_|refine Ag ?_|refine Ah ?_|refine Ai Ac J J ?_|refine Ar ?_|refine Ak Ac J J J J J J J (Zy _ _ h0 hn hb) J J ?_)
 exact Au J (Sub.refl _)
theorem UG (b s:Bs) (hs:s.length≤1024) (hb:b.length≤1000000000):
  Ct Tryz.prog 217 [.t (.slice .any 1 (b.map Bn)),.t (.str s)] [] (.tuple [.t (.slice .any 1 ((b++Dd s).map Bn)),.t (.int .i64 0)]) []:=by
 refine ct0 Ac Tryz.func217 J false J J ?_
 have hl:=Cf (n:=s.length) O
 repeat'(first|refine Ae Ac J J J ?_|refine Ag ?_|refine Ah ?_|refine Ai Ac J J ?_|(refine Af J (ht:=fun h=>?_) (hf:=fun h=>?_)<;>try exact prn)|refine Ao ?_|refine Ar ?_|refine A7 Ac [] [(36,30)] J J J J J (WO _ s.length O hb) J J J J J ?_|refine Zv Ac J J J J J J J J J J J J J J (by simp[Fu];omega) ?_)
 refine Au J (Sub.of_eq ?_)
 simp[BA,Dd,DJ]
 exact List.take_of_length_le Z
end Go.Proofs.YtpdmaenhenfofaaGreatDoor
namespace Go.Proofs.YtpdmaenhenfofaaGreatDoor
open Go.Am
attribute [local irreducible] Decidable.decide
set_option maxRecDepth 100000
set_option maxHeartbeats 1000000
theorem Ad4 (n:Nat) (h0:0<n) (hn:n≤10000000000):
  Ct Tryz.prog 222 [.t (.slice .nil 0 []),.t (.int .i64 n)] [] (.row 44 1 0 0) [(44,.grow 1 [])]:=by
 refine ct1 Ac Tryz.func222 J J ?_
 have hw:IntKind.i64.wrap ((n:Int)-IntKind.i64.wrap (0-((([]:List (List T)).length:Nat):Int)))=(n:Int):=by
  have:IntKind.i64.wrap (0-((([]:List (List T)).length:Nat):Int))=0:=by rw[A0 Z Z];simp
  rw[this,A0 O O];omega
 repeat'(first|refine Ae Ac J J J ?_|refine Ag ?_|refine Ah ?_|refine Ai Ac J J ?_|(refine Af J (ht:=fun h=>?_) (hf:=fun h=>?_)<;>try exact prn)|refine Ao ?_|refine Ar ?_|refine Zu Ac J J J J J J J J ?_|refine RM Ac J J J J J J J J J J J hw J J h0 O ?_)
 exact BR [] J J J (Sub.refl _)
def Nf (b:Bs):List T:=[.slice .any 1 (b.map Bn)]
theorem Ko {l:List Bs} {i:Nat}:(l.take i).flatten.length≤l.flatten.length:=by
 have:l.flatten=(l.take i).flatten++(l.drop i).flatten:=by rw[←List.flatten_append,List.take_append_drop]
 rw[this,List.length_append];omega
theorem Jp {l:List Bs} {i:Nat} {b:Bs} (h:l[i]?=some b):(l.take (i+1)).flatten=(l.take i).flatten++b:=by
 rw[AL h,List.flatten_append];simp
theorem YO (l:List Bs) (h0:0<l.flatten.length) (hn:l.flatten.length≤10000000000) (hll:l.length≤1000000):
  Ct Tryz.prog 216 [.t (.slice .any 1 (l.map Nf))] [] (.t (.slice .any 1 (l.flatten.map Bn))) []:=by
 refine ct0 Ac Tryz.func216 J false J J ?_
 have hlm:(l.map Nf).length=l.length:=List.length_map ..
 repeat'(first|refine Ae Ac J J J ?_|refine Ag ?_|refine Ah ?_|refine Ai Ac J J ?_|refine Al ?_)
 refine AM (ι:=Nat) (fun i=>i≤l.length) (fun i=>[(0,.t (.slice .any 1 (l.map Nf))),(9,.t (.slice .any 1 (l.map Nf))),(10,.t (.int .i64 ((l.map Nf).length:Int))),(11,.t (.int .i64 i)),(3,.t (.int .i64 ((l.take i).flatten.length:Int)))]) (fun _=>[]) (fun i=>l.length-i) 0 Z ?_ ?_
 ·exact AR [] (Ad J J (Ad J J (Ad J J (Ad J J (Ad J J Aq))))) J
 rintro i hi
 by_cases hlt:i<l.length
 ·have hr:l[i]?=some l[i]:=List.getElem?_eq_getElem hlt
  generalize l[i]=r at hr
  have hs:=Jp hr
  have hsl:=congrArg List.length hs
  rw[List.length_append]at hsl
  have hle:=Ko (l:=l) (i:=i+1)
  have hrm:(r.map Bn).length=r.length:=List.length_map ..
  have hw:IntKind.i64.wrap (((l.take i).flatten.length:Int)+((r.map Bn).length:Int))=((l.take (i+1)).flatten.length:Int):=by
   rw[A0 O O];omega
  repeat'(first|refine Ae Ac J J J ?_|refine Ag ?_|refine Ah ?_|refine Ai Ac J J ?_|(refine Af J (ht:=fun h=>?_) (hf:=fun h=>?_)<;>try exact prn)|refine Al ?_|refine Ao ?_|refine AD Ac J J J J J J J (A2 Aa) J ?_)
  refine AF (i+1) O O [] (Ad J J (Ad J J (Ad J J (Ad J ?_ (Ad J (congrArg (fun z=>AV.t (T.int .i64 z)) hw) Aq))))) J
  rw[A0 O O];rfl
 ·have hall:l.take i=l:=List.take_of_length_le O
  repeat'(first|refine Ae Ac J J J ?_|refine Ag ?_|refine Ah ?_|refine Ai Ac J J ?_|(refine Af J (ht:=fun h=>?_) (hf:=fun h=>?_)<;>try exact prn)|refine Al ?_|refine AB ?_|refine A7 Ac [] [(44,48)] J J J J J (Ad4 (l.take i).flatten.length (by rw[hall];exact h0) (by rw[hall];exact hn)) J J J J J ?_)
  refine AM (ι:=Nat) (fun j=>j≤l.length) (fun j=>[(25,.t (.slice .any 1 (l.map Nf))),(26,.t (.int .i64 ((l.map Nf).length:Int))),(27,.t (.int .i64 j)),(6,.row 48 1 0 (((l.take j).flatten).map Bn).length)]) (fun j=>[(48,.grow 1 (((l.take j).flatten).map Bn))]) (fun j=>l.length-j) 0 Z ?_ ?_
  ·exact AR [] (Ad J J (Ad J J (Ad J J (Ad J J Aq)))) J
  rintro j hj
  by_cases hlt2:j<l.length
  ·have hr:l[j]?=some l[j]:=List.getElem?_eq_getElem hlt2
   generalize l[j]=r at hr
   have hs:=Jp hr
   have hsl:=congrArg List.length hs
   rw[List.length_append]at hsl
   have hle:=Ko (l:=l) (i:=j+1)
   repeat'(first|refine Ae Ac J J J ?_|refine Ag ?_|refine Ah ?_|refine Ai Ac J J ?_|(refine Af J (ht:=fun h=>?_) (hf:=fun h=>?_)<;>try exact prn)|refine Al ?_|refine Ao ?_|refine AD Ac J J J J J J J (A2 Aa) J ?_|refine AN Ac J J J J J J J J J J J J J J (by simp only[List.length_append,List.length_map];omega) ?_)
   refine AF (j+1) O O [] (Ad J J (Ad J J (Ad J ?_ (Ad J ?_ Aq)))) ?_
   ·rw[A0 O O];rfl
   ·rw[hs,List.map_append]
   ·rw[hs,List.map_append];rfl
  ·have hall2:l.take j=l:=List.take_of_length_le O
   repeat'(first|refine Ae Ac J J J ?_|refine Ag ?_|refine Ah ?_|refine Ai Ac J J ?_|(refine Af J (ht:=fun h=>?_) (hf:=fun h=>?_)<;>try exact prn)|refine AB ?_|refine Ar ?_)
   refine Au J (Sub.of_eq ?_)
   rw[hall2];exact Abh 48 1 _
end Go.Proofs.YtpdmaenhenfofaaGreatDoor
namespace Go.Proofs.YtpdmaenhenfofaaGreatDoor
open Go.Am
attribute [local irreducible] Decidable.decide
set_option maxRecDepth 100000
set_option maxHeartbeats 1000000
theorem ON (b:Bs) (y:Bool) (hb:b.length≤1000000000):
  Ct Tryz.prog 204 [.t (.slice .any 1 (b.map Bn)),.t (.bool y)] [] (.t (.slice .any 1 ((b++Da y).map Bn))) []:=by
 have cc: ∀f:Bs,f.length=1→Ct Tryz.prog 216 [.t (.slice .any 1 ([b,f].map Nf))] [] (.t (.slice .any 1 ((b++f).map Bn))) []:=fun f hf=>by
  have:=YO [b,f] (by simp;omega) (by simp;omega) Z
  simpa using this
 refine ct0 Ac Tryz.func204 J false J J ?_
 refine Ah ?_
 refine Ai Ac J J ?_
 refine Ae Ac J J J ?_
 refine Ag ?_
 refine Ah ?_
 refine Ai Ac J J ?_
 refine WN Ac J J J J J J J J ?_
 cases y with
 |false=>
  repeat'(first|refine An Ac J J J J J ?_|refine Ae Ac J J J ?_|refine Ag ?_|refine Ah ?_|refine Ai Ac J J ?_|(refine Af J (ht:=fun h=>?_) (hf:=fun h=>?_)<;>try exact prn)|refine Ao ?_|refine Ar ?_|refine Ck Ac J J J J (cc [0] J) J J J ⟨Bp,trivial⟩ ?_)
  exact Au J (Sub.refl _)
 |true=>
  repeat'(first|refine An Ac J J J J J ?_|refine Ae Ac J J J ?_|refine Ag ?_|refine Ah ?_|refine Ai Ac J J ?_|(refine Af J (ht:=fun h=>?_) (hf:=fun h=>?_)<;>try exact prn)|refine Ar ?_|refine Ck Ac J J J J (cc [1] J) J J J ⟨Bp,trivial⟩ ?_)
  exact Au J (Sub.refl _)
end Go.Proofs.YtpdmaenhenfofaaGreatDoor
namespace Go.Proofs.YtpdmaenhenfofaaGreatDoor
open Go.Am
attribute [local irreducible] Decidable.decide
set_option maxRecDepth 100000
set_option maxHeartbeats 1000000
def Em {α:Type} (p:α→Bool) (l:List α):Int:=match l.findIdx? p with
 |some i=>(i:Int)
 |none=> -1
theorem Sv {α:Type} {p:α→Bool} {l:List α} {i:Nat} {x:α} (h:l[i]?=some x) (ha:(l.take i).any p=false) (hp:p x=true):Em p l=(i:Int):=by
 have hlt:i<l.length:=(List.getElem?_eq_some_iff.1 h).1
 have:l.findIdx? p=some i:=by
  rw[List.findIdx?_eq_some_iff_getElem]
  refine⟨hlt,by obtain⟨_,rfl⟩:=List.getElem?_eq_some_iff.1 h;exact hp,fun j hj=>?_⟩
  have:=List.any_eq_false.1 ha (l[j]' O) (by rw[List.mem_take_iff_getElem];exact⟨j,by omega,J⟩)
  simpa using this
 simp[Em,this]
theorem Jg {α:Type} {p:α→Bool} {l:List α} (h:l.any p=false):Em p l= -1:=by
 have:l.findIdx? p=none:=by
  rw[List.findIdx?_eq_none_iff];intro x hx;have:=List.any_eq_false.1 h x hx;simpa using this
 simp[Em,this]
theorem Ir {α:Type} (p:α→Bool) (l:List α):(0≤Em p l)↔l.any p=true:=by
 cases h:l.any p with
 |false=>rw[Jg h];simp
 |true=>
  have: ∃i,l.findIdx? p=some i:=by
   cases hf:l.findIdx? p with
   |some i=>exact⟨i,J⟩
   |none=>rw[List.findIdx?_eq_none_iff]at hf;rw[List.any_eq_true]at h;obtain⟨x,hx,hp⟩:=h;have:=hf x hx;simp[hp]at this
  obtain⟨i,hi⟩:=this
  simp[Em,hi]
theorem U7 (fnum:Nat) (cap:List T) (p:Rec→Bool) (l:List Rec) (hl:l.length≤1000000000) (hf: ∀r,Ct Tryz.prog fnum (.agg (Aj (Bu r))::Aj cap) [] (.t (.bool (p r))) []) (hfr:Eo (Aj cap)=true):
  Ct Tryz.prog 124 [.t (.slice .any 2 (l.map Bu)),.t (.func (.func fnum) [] cap)] [] (.t (.int .i64 (Em p l))) []:=by
 refine ct0 Ac Tryz.func124 J false J J ?_
 have hlm:(l.map Bu).length=l.length:=List.length_map ..
 repeat'(first|refine Ae Ac J J J ?_|refine Ag ?_|refine Ah ?_|refine Ai Ac J J ?_|refine Al ?_)
 refine AM (ι:=Nat) (fun i=>i≤l.length∧(l.take i).any p=false) (fun i=>[(0,.t (.slice .any 2 (l.map Bu))),(1,.t (.func (.func fnum) [] cap)),(7,.t (.int .i64 ((l.map Bu).length:Int))),(8,.t (.int .i64 i))]) (fun _=>[]) (fun i=>l.length-i) 0 Z ?_ ?_
 ·exact AR [] (Ad J J (Ad J J (Ad J J (Ad J J Aq)))) J
 rintro i ⟨hi,hany⟩
 by_cases hlt:i<l.length
 ·have hr:l[i]?=some l[i]:=List.getElem?_eq_getElem hlt
  generalize l[i]=r at hr
  repeat'(first|refine Ae Ac J J J ?_|refine Ag ?_|refine Ah ?_|refine Ai Ac J J ?_|(refine Af J (ht:=fun h=>?_) (hf:=fun h=>?_)<;>try exact prn)|refine Al ?_|refine Ao ?_|refine Ar ?_|refine AD Ac J J J J J J J (A2 Aa) J ?_|refine Ak Ac J J J J J J hfr (hf r) J J ?_)
  ·exact Au J (Sub.of_eq (by rw[Sv hr hany h]))
  ·refine AF (i+1) ⟨hlt,Cd hr hany (by simpa using h)⟩ O [] (Ad J J (Ad J J (Ad J J (Ad J ?_ Aq)))) J
   rw[A0 O O];rfl
 ·repeat'(first|refine Ae Ac J J J ?_|refine Ag ?_|refine Ah ?_|refine Ai Ac J J ?_|(refine Af J (ht:=fun h=>?_) (hf:=fun h=>?_)<;>try exact prn)|refine AB ?_|refine Ar ?_)
  exact Au J (Sub.of_eq (by rw[Jg (CM O hany)]))
theorem Pv (fnum:Nat) (cap:List T) (p:Rec→Bool) (l:List Rec) (hl:l.length≤1000000000) (hf: ∀r,Ct Tryz.prog fnum (.agg (Aj (Bu r))::Aj cap) [] (.t (.bool (p r))) []) (hfr:Eo (Aj cap)=true):
  Ct Tryz.prog 68 [.t (.slice .any 2 (l.map Bu)),.t (.func (.func fnum) [] cap)] [] (.t (.bool (l.any p))) []:=by
 refine ct0 Ac Tryz.func68 J false J J ?_
 repeat'(first|refine Ae Ac J J J ?_|refine Ag ?_|refine Ah ?_|refine Ai Ac J J ?_|refine Ar ?_|refine Ak Ac J J J J J J J (U7 fnum cap p l hl hf hfr) J J ?_)
 refine Au J (BJ ?_)
 rw[←Bool.eq_iff_iff.2 ⟨fun h=>(Ir p l).1 (of_decide_eq_true h),fun h=>decide_eq_true ((Ir p l).2 h)⟩]
theorem U6 (fnum:Nat) (cap:List T) (p:Row→Bool) (l:List Row) (hl:l.length≤1000000000) (hf: ∀r,Ct Tryz.prog fnum (.agg (Aj (AC r))::Aj cap) [] (.t (.bool (p r))) []) (hfr:Eo (Aj cap)=true):
  Ct Tryz.prog 154 [.t (.slice .any 5 (l.map AC)),.t (.func (.func fnum) [] cap)] [] (.t (.int .i64 (Em p l))) []:=by
 refine ct0 Ac Tryz.func154 J false J J ?_
 have hlm:(l.map AC).length=l.length:=List.length_map ..
 repeat'(first|refine Ae Ac J J J ?_|refine Ag ?_|refine Ah ?_|refine Ai Ac J J ?_|refine Al ?_)
 refine AM (ι:=Nat) (fun i=>i≤l.length∧(l.take i).any p=false) (fun i=>[(0,.t (.slice .any 5 (l.map AC))),(1,.t (.func (.func fnum) [] cap)),(7,.t (.int .i64 ((l.map AC).length:Int))),(8,.t (.int .i64 i))]) (fun _=>[]) (fun i=>l.length-i) 0 Z ?_ ?_
 ·exact AR [] (Ad J J (Ad J J (Ad J J (Ad J J Aq)))) J
 rintro i ⟨hi,hany⟩
 by_cases hlt:i<l.length
 ·have hr:l[i]?=some l[i]:=List.getElem?_eq_getElem hlt
  generalize l[i]=r at hr
  repeat'(first|refine Ae Ac J J J ?_|refine Ag ?_|refine Ah ?_|refine Ai Ac J J ?_|(refine Af J (ht:=fun h=>?_) (hf:=fun h=>?_)<;>try exact prn)|refine Al ?_|refine Ao ?_|refine Ar ?_|refine AD Ac J J J J J J J (A2 Aa) J ?_|refine Ak Ac J J J J J J hfr (hf r) J J ?_)
  ·exact Au J (Sub.of_eq (by rw[Sv hr hany h]))
  ·refine AF (i+1) ⟨hlt,Cd hr hany (by simpa using h)⟩ O [] (Ad J J (Ad J J (Ad J J (Ad J ?_ Aq)))) J
   rw[A0 O O];rfl
 ·repeat'(first|refine Ae Ac J J J ?_|refine Ag ?_|refine Ah ?_|refine Ai Ac J J ?_|(refine Af J (ht:=fun h=>?_) (hf:=fun h=>?_)<;>try exact prn)|refine AB ?_|refine Ar ?_)
  exact Au J (Sub.of_eq (by rw[Jg (CM O hany)]))
theorem Pu (fnum:Nat) (cap:List T) (p:Row→Bool) (l:List Row) (hl:l.length≤1000000000) (hf: ∀r,Ct Tryz.prog fnum (.agg (Aj (AC r))::Aj cap) [] (.t (.bool (p r))) []) (hfr:Eo (Aj cap)=true):
  Ct Tryz.prog 93 [.t (.slice .any 5 (l.map AC)),.t (.func (.func fnum) [] cap)] [] (.t (.bool (l.any p))) []:=by
 refine ct0 Ac Tryz.func93 J false J J ?_
 repeat'(first|refine Ae Ac J J J ?_|refine Ag ?_|refine Ah ?_|refine Ai Ac J J ?_|refine Ar ?_|refine Ak Ac J J J J J J J (U6 fnum cap p l hl hf hfr) J J ?_)
 refine Au J (BJ ?_)
 rw[←Bool.eq_iff_iff.2 ⟨fun h=>(Ir p l).1 (of_decide_eq_true h),fun h=>decide_eq_true ((Ir p l).2 h)⟩]
theorem MY (fnum:Nat) (cap:List T) (p:Opn→Bool) (l:List Opn) (hl:l.length≤1000000000) (hf: ∀r,Ct Tryz.prog fnum (.agg (Aj (Aw r))::Aj cap) [] (.t (.bool (p r))) []) (hfr:Eo (Aj cap)=true):
  Ct Tryz.prog 102 [.t (.slice .any 3 (l.map Aw)),.t (.func (.func fnum) [] cap)] [] (.t (.int .i64 (Em p l))) []:=by
 refine ct0 Ac Tryz.func102 J false J J ?_
 have hlm:(l.map Aw).length=l.length:=List.length_map ..
 repeat'(first|refine Ae Ac J J J ?_|refine Ag ?_|refine Ah ?_|refine Ai Ac J J ?_|refine Al ?_)
 refine AM (ι:=Nat) (fun i=>i≤l.length∧(l.take i).any p=false) (fun i=>[(0,.t (.slice .any 3 (l.map Aw))),(1,.t (.func (.func fnum) [] cap)),(7,.t (.int .i64 ((l.map Aw).length:Int))),(8,.t (.int .i64 i))]) (fun _=>[]) (fun i=>l.length-i) 0 Z ?_ ?_
 ·exact AR [] (Ad J J (Ad J J (Ad J J (Ad J J Aq)))) J
 rintro i ⟨hi,hany⟩
 by_cases hlt:i<l.length
 ·have hr:l[i]?=some l[i]:=List.getElem?_eq_getElem hlt
  generalize l[i]=r at hr
  repeat'(first|refine Ae Ac J J J ?_|refine Ag ?_|refine Ah ?_|refine Ai Ac J J ?_|(refine Af J (ht:=fun h=>?_) (hf:=fun h=>?_)<;>try exact prn)|refine Al ?_|refine Ao ?_|refine Ar ?_|refine AD Ac J J J J J J J (A2 Aa) J ?_|refine Ak Ac J J J J J J hfr (hf r) J J ?_)
  ·exact Au J (Sub.of_eq (by rw[Sv hr hany h]))
  ·refine AF (i+1) ⟨hlt,Cd hr hany (by simpa using h)⟩ O [] (Ad J J (Ad J J (Ad J J (Ad J ?_ Aq)))) J
   rw[A0 O O];rfl
 ·repeat'(first|refine Ae Ac J J J ?_|refine Ag ?_|refine Ah ?_|refine Ai Ac J J ?_|(refine Af J (ht:=fun h=>?_) (hf:=fun h=>?_)<;>try exact prn)|refine AB ?_|refine Ar ?_)
  exact Au J (Sub.of_eq (by rw[Jg (CM O hany)]))
theorem Pw (fnum:Nat) (cap:List T) (p:Opn→Bool) (l:List Opn) (hl:l.length≤1000000000) (hf: ∀r,Ct Tryz.prog fnum (.agg (Aj (Aw r))::Aj cap) [] (.t (.bool (p r))) []) (hfr:Eo (Aj cap)=true):
  Ct Tryz.prog 197 [.t (.slice .any 3 (l.map Aw)),.t (.func (.func fnum) [] cap)] [] (.t (.bool (l.any p))) []:=by
 refine ct0 Ac Tryz.func197 J false J J ?_
 repeat'(first|refine Ae Ac J J J ?_|refine Ag ?_|refine Ah ?_|refine Ai Ac J J ?_|refine Ar ?_|refine Ak Ac J J J J J J J (MY fnum cap p l hl hf hfr) J J ?_)
 refine Au J (BJ ?_)
 rw[←Bool.eq_iff_iff.2 ⟨fun h=>(Ir p l).1 (of_decide_eq_true h),fun h=>decide_eq_true ((Ir p l).2 h)⟩]
end Go.Proofs.YtpdmaenhenfofaaGreatDoor
namespace Go.Proofs.YtpdmaenhenfofaaGreatDoor
open Go.Am
attribute [local irreducible] Decidable.decide
set_option maxRecDepth 100000
set_option maxHeartbeats 1000000
theorem Ym (r:Rec):Ct Tryz.prog 69 [.agg (Aj (Bu r))] [] (.t (.bool (!G6 r))) []:=by
 refine ct0 Ac Tryz.func69 J false J J ?_
 repeat'(first|refine Ae Ac J J J ?_|refine Ag ?_|refine Ah ?_|refine Ai Ac J J ?_|(refine AP J J J J J (ht:=fun h=>?_) (hf:=fun h=>?_)<;>try exact prn)|refine Ar ?_)
 all_goals(refine Au J (BJ ?_);unfold G6)
 all_goals(rw[Bool.eq_iff_iff];simp;omega)
theorem GV (b:Batch) (hl:b.recs.length≤1000000000):Ct Tryz.prog 37 [.agg (Aj (Ap b))] [] (.t (.bool (A1 b))) []:=by
 refine ct0 Ac Tryz.func37 J false J J ?_
 have hlm:(b.recs.map Bu).length=b.recs.length:=List.length_map ..
 have hw:(b.recs.length:Int)≤4→IntKind.i64.wrap (1048576-((b.recs.map Bu).length:Int))=1048576-(b.recs.length:Int):=fun h=>by rw[A0 O O,hlm]
 repeat'(first|refine Ae Ac J J J ?_|refine Ag ?_|refine Ah ?_|refine Ai Ac J J ?_|(refine AP J J J J J (ht:=fun h=>?_) (hf:=fun h=>?_)<;>try exact prn)|(refine Af J (ht:=fun h=>?_) (hf:=fun h=>?_)<;>try exact prn)|refine Al ?_|refine Ao ?_|refine AB ?_|refine Ar ?_|refine Ak Ac J J J J J J J (Pv 69 [] (fun r=> !G6 r) b.recs hl Ym J) J J ?_)
 all_goals try(refine Au J (BJ (Wc ?_));unfold Cm;omega)
 have hbd:Cm b:=by unfold Cm;have:=hw O;omega
 refine Au J (BJ ?_)
 simp only[A1,hbd,decide_true,Bool.true_and]
 rw[List.all_eq_not_any_not]
theorem UP (a b:List Rec) (ha:a.length≤1000000000):Ct Tryz.prog 211 [.t (.slice .any 2 (a.map Bu)),.t (.slice .any 2 (b.map Bu))] [] (.t (.bool (decide (a=b)))) []:=by
 refine ct0 Ac Tryz.func211 J false J J ?_
 have hla:(a.map Bu).length=a.length:=List.length_map ..
 have hlb:(b.map Bu).length=b.length:=List.length_map ..
 repeat'(first|refine Ae Ac J J J ?_|refine Ag ?_|refine Ah ?_|refine Ai Ac J J ?_|(refine Af J (ht:=fun h=>?_) (hf:=fun h=>?_)<;>try exact prn)|refine Al ?_|refine Ao ?_|refine Ar ?_)
 ·exact Au J (BJ (bF fun e=>by subst e;exact h J))
 have hl:a.length=b.length:=by omega
 refine AM (ι:=Nat) (fun i=>i≤a.length∧a.take i=b.take i) (fun i=>[(0,.t (.slice .any 2 (a.map Bu))),(1,.t (.slice .any 2 (b.map Bu))),(12,.t (.int .i64 ((a.map Bu).length:Int))),(13,.t (.int .i64 i))]) (fun _=>[]) (fun i=>a.length-i) 0 Z ?_ ?_
 ·exact AR [] (Ad J J (Ad J J (Ad J J (Ad J J Aq)))) J
 rintro i ⟨hi,htk⟩
 by_cases hlt:i<a.length
 ·have hr:a[i]?=some a[i]:=List.getElem?_eq_getElem hlt
  have hs:b[i]?=some (b[i]' O):=List.getElem?_eq_getElem _
  generalize a[i]=r at hr
  generalize b[i]' O=s at hs
  repeat'(first|refine Ae Ac J J J ?_|refine Ag ?_|refine Ah ?_|refine Ai Ac J J ?_|(refine Af J (ht:=fun h=>?_) (hf:=fun h=>?_)<;>try exact prn)|refine Al ?_|refine Ao ?_|refine Ar ?_|refine A9 (id:=6) (m:=8) Ac Y J J J J ?_|refine AA J J J J ?_|refine Bz J J J J J J J (A2 Aa) J ?_)
  ·exact Au J (BJ (bF (fun e=>by subst e;rw[hr]at hs;cases hs;simp at h)))
  ·have e:r=s:=by cases r;cases s;simp at h;simp[h]
   refine AF (i+1) ⟨hlt,IL hr hs htk e⟩ O [] (Ad J J (Ad J J (Ad J J (Ad J ?_ Aq)))) J
   rw[A0 O O];rfl
 ·repeat'(first|refine Ae Ac J J J ?_|refine Ag ?_|refine Ah ?_|refine Ai Ac J J ?_|(refine Af J (ht:=fun h=>?_) (hf:=fun h=>?_)<;>try exact prn)|refine AB ?_|refine Ar ?_)
  exact Au J (BJ (bT (KS hl O htk)))
theorem S5 (a b:List Seen) (ha:a.length≤1000000000):Ct Tryz.prog 212 [.t (.slice .any 3 (a.map Bv)),.t (.slice .any 3 (b.map Bv))] [] (.t (.bool (decide (a=b)))) []:=by
 refine ct0 Ac Tryz.func212 J false J J ?_
 have hla:(a.map Bv).length=a.length:=List.length_map ..
 have hlb:(b.map Bv).length=b.length:=List.length_map ..
 repeat'(first|refine Ae Ac J J J ?_|refine Ag ?_|refine Ah ?_|refine Ai Ac J J ?_|(refine Af J (ht:=fun h=>?_) (hf:=fun h=>?_)<;>try exact prn)|refine Al ?_|refine Ao ?_|refine Ar ?_)
 ·exact Au J (BJ (bF fun e=>by subst e;exact h J))
 have hl:a.length=b.length:=by omega
 refine AM (ι:=Nat) (fun i=>i≤a.length∧a.take i=b.take i) (fun i=>[(0,.t (.slice .any 3 (a.map Bv))),(1,.t (.slice .any 3 (b.map Bv))),(12,.t (.int .i64 ((a.map Bv).length:Int))),(13,.t (.int .i64 i))]) (fun _=>[]) (fun i=>a.length-i) 0 Z ?_ ?_
 ·exact AR [] (Ad J J (Ad J J (Ad J J (Ad J J Aq)))) J
 rintro i ⟨hi,htk⟩
 by_cases hlt:i<a.length
 ·have hr:a[i]?=some a[i]:=List.getElem?_eq_getElem hlt
  have hs:b[i]?=some (b[i]' O):=List.getElem?_eq_getElem _
  generalize a[i]=r at hr
  generalize b[i]' O=s at hs
  repeat'(first|refine Ae Ac J J J ?_|refine Ag ?_|refine Ah ?_|refine Ai Ac J J ?_|(refine Af J (ht:=fun h=>?_) (hf:=fun h=>?_)<;>try exact prn)|refine Al ?_|refine Ao ?_|refine Ar ?_|refine A9 (id:=6) (m:=8) Ac Y J J J J ?_|refine AA J J J J ?_|refine Bz J J J J J J J (A2 Aa) J ?_)
  ·exact Au J (BJ (bF (fun e=>by subst e;rw[hr]at hs;cases hs;simp at h)))
  ·have e:r=s:=by cases r;cases s;simp at h;simp[h]
   refine AF (i+1) ⟨hlt,IL hr hs htk e⟩ O [] (Ad J J (Ad J J (Ad J J (Ad J ?_ Aq)))) J
   rw[A0 O O];rfl
 ·repeat'(first|refine Ae Ac J J J ?_|refine Ag ?_|refine Ah ?_|refine Ai Ac J J ?_|(refine Af J (ht:=fun h=>?_) (hf:=fun h=>?_)<;>try exact prn)|refine AB ?_|refine Ar ?_)
  exact Au J (BJ (bT (KS hl O htk)))
theorem ZD (a b:Batch) (ha:a.recs.length≤1000000):Ct Tryz.prog 200 [.agg (Aj (Ap a)),.agg (Aj (Ap b))] [] (.t (.bool (decide (a=b)))) []:=by
 refine ct0 Ac Tryz.func200 J false J J ?_
 repeat'(first|refine Ae Ac J J J ?_|refine Ag ?_|refine Ah ?_|refine Ai Ac J J ?_|(refine AZ J J J J J (ht:=fun h=>?_) (hf:=fun h=>?_)<;>try exact prn)|refine Ar ?_|refine Ak Ac J J J J J J J (UP a.recs b.recs O) J J ?_)
 ·refine Au J (BJ (bI ?_));cases a;cases b;simp at*;simp[*]
 all_goals exact Au J (BJ (bF (fun e=>by subst e;simp at*)))
theorem S4 (a b:Prod) (ha:a.seen.length≤1000000):Ct Tryz.prog 201 [.agg (Aj (Av a)),.agg (Aj (Av b))] [] (.t (.bool (decide (a=b)))) []:=by
 refine ct0 Ac Tryz.func201 J false J J ?_
 repeat'(first|refine Ae Ac J J J ?_|refine Ag ?_|refine Ah ?_|refine Ai Ac J J ?_|(refine AZ J J J J J (ht:=fun h=>?_) (hf:=fun h=>?_)<;>try exact prn)|refine Ar ?_|refine Ak Ac J J J J J J J (S5 a.seen b.seen O) J J ?_)
 ·refine Au J (BJ (bI ?_));cases a;cases b;simp at*;simp[*]
 all_goals exact Au J (BJ (bF (fun e=>by subst e;simp at*)))
theorem FI (a b:Entry) (ha:a.b.recs.length≤1000000) (hp:a.prod.seen.length≤1000000):Ct Tryz.prog 166 [.agg (Aj (A4 a)),.agg (Aj (A4 b))] [] (.t (.bool (decide (a=b)))) []:=by
 refine ct0 Ac Tryz.func166 J false J J ?_
 repeat'(first|refine Ae Ac J J J ?_|refine Ag ?_|refine Ah ?_|refine Ai Ac J J ?_|(refine AZ J J J J J (ht:=fun h=>?_) (hf:=fun h=>?_)<;>try exact prn)|refine Ar ?_|refine Ak Ac J J J J J J J (ZD a.b b.b ha) J J ?_|refine Ak Ac J J J J J J J (S4 a.prod b.prod hp) J J ?_)
 ·refine Au J (BJ (bI ?_))
  rcases a with⟨k1,b1,y1,n1,o1,⟨ro1,rp1,rs1,rk1,rv1⟩,p1⟩
  rcases b with⟨k2,b2,y2,n2,o2,⟨ro2,rp2,rs2,rk2,rv2⟩,p2⟩
  simp at*;simp[*]
 all_goals exact Au J (BJ (bF (fun e=>by subst e;simp at*)))
theorem S3 (n:Int):Ct Tryz.prog 163 [.t (.int .i64 n)] [] (.t (.bool (decide (0≤n∧n≤1048576)))) []:=by
 refine ct0 Ac Tryz.func163 J false J J ?_
 repeat'(first|refine Ae Ac J J J ?_|refine Ag ?_|refine Ah ?_|refine Ai Ac J J ?_|(refine AZ J J J J J (ht:=fun h=>?_) (hf:=fun h=>?_)<;>try exact prn)|refine Ar ?_)
 all_goals(refine Au J (BJ ?_);(first|exact bI O|exact bT O|exact bF O))
theorem Gk (a b:Int):Ct Tryz.prog 164 [.t (.int .i64 a),.t (.int .i64 b)] [] (.t (.bool (decide (1≤a∧a≤8∧0≤b∧b≤100)))) []:=by
 refine ct0 Ac Tryz.func164 J false J J ?_
 repeat'(first|refine Ae Ac J J J ?_|refine Ag ?_|refine Ah ?_|refine Ai Ac J J ?_|(refine AZ J J J J J (ht:=fun h=>?_) (hf:=fun h=>?_)<;>try exact prn)|refine Ar ?_)
 all_goals(refine Au J (BJ ?_);(first|exact bI O|exact bT O|exact bF O))
theorem Aed (r:Row):Ct Tryz.prog 165 [.agg (Aj (AC r))] [] (.t (.bool (decide (r.offset=0)&&Io r))) []:=by
 refine ct0 Ac Tryz.func165 J false J J ?_
 repeat'(first|refine Ae Ac J J J ?_|refine Ag ?_|refine Ah ?_|refine Ai Ac J J ?_|(refine AZ J J J J J (ht:=fun h=>?_) (hf:=fun h=>?_)<;>try exact prn)|refine Ar ?_|refine Ak Ac J J J J J J J (Gk _ _) J J ?_)
 all_goals(refine Au J (BJ ?_);unfold Io;rw[Bool.eq_iff_iff];simp;omega)
end Go.Proofs.YtpdmaenhenfofaaGreatDoor
