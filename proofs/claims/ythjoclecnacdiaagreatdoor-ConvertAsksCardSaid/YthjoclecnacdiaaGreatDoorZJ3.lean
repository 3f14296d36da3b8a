/- Contracts and laws, joined: Pa, Pb, Pc, Pd, Pe. No condition beside those that each theorem names. -/
import Derived.Test.YthjoclecnacdiaaGreatDoorZJ2
set_option linter.unusedVariables false
set_option linter.unusedSimpArgs false
namespace Go.Proofs.YthjoclecnacdiaaGreatDoor
open Go.Am
attribute [local irreducible] Decidable.decide
set_option maxRecDepth 100000
set_option maxHeartbeats 1000000
theorem Y3 (n:Nat) (h:n<9223372036854775808):(BitVec.ofInt 64 (n:Int)&&&BitVec.ofInt 64 127).toNat=n % 128:=by
 rw[BitVec.toNat_and]
 have h1:(BitVec.ofInt 64 (n:Int)).toNat=n:=by simp[BitVec.toNat_ofInt];omega
 have h2:(BitVec.ofInt 64 127).toNat=127:=rfl
 rw[h1,h2]
 exact Nat.and_two_pow_sub_one_eq_mod n 7
theorem Abd (n:Nat) (h:n<128):(BitVec.ofInt 64 (n:Int)|||BitVec.ofInt 64 128).toNat=128+n:=by
 rw[BitVec.toNat_or]
 have h1:(BitVec.ofInt 64 (n:Int)).toNat=n:=by simp[BitVec.toNat_ofInt];omega
 have h2:(BitVec.ofInt 64 128).toNat=128:=rfl
 rw[h1,h2]
 have:=Nat.two_pow_add_eq_or_of_lt (i:=7) (b:=n) O 1
 simp at this
 rw[Nat.or_comm];exact this.symm
theorem Aa6 (n:Nat):(n:Int).fdiv (2^7)=((n/128:Nat):Int):=by
 have h8:(2:Int)^7=128:=by decide
 rw[h8,Int.fdiv_eq_ediv_of_nonneg _ Aa];omega
theorem Ub {n:Nat} (h:n<9223372036854775808):T.int .u8 (IntKind.u8.wrap (IntKind.i64.wrap (((BitVec.ofInt 64 (IntKind.i64.wrap (((BitVec.ofInt 64 (n:Int)&&&BitVec.ofInt 64 127).toNat:Nat):Int))|||BitVec.ofInt 64 128).toNat:Nat):Int)))=T.int .u8 ((UInt8.ofNat (128+n % 128)).toNat:Int):=by
 have hw:IntKind.i64.wrap ((n % 128:Nat):Int)=((n % 128:Nat):Int):=AW O O
 rw[Y3 n h,hw,Abd (n % 128) O]
 exact Tw (by rw[AW O O]) O
theorem Yq (n:Int):Ct Tryz.prog 213 [.t (.int .i64 n)] [] (.t (.int .i64 (if 0≤n∧n≤1099511627776 then((BR n.toNat).length:Int)else 0))) []:=by
 refine ct0 Ab Tryz.func213 J false J J ?_
 repeat'(first|refine Ak Ab J J J J J ?_|refine Ap Ab J J J ?_|refine A0 ?_|refine A9 ?_|refine Aw Ab J J ?_|(refine A1 J J J J J (ht:=fun h=>?_) (hf:=fun h=>?_)<;>try exact prn)|(refine A2 J J J J J (ht:=fun h=>?_) (hf:=fun h=>?_)<;>try exact prn)|refine Ag J J J J J ?_|(refine Al J (ht:=fun h=>?_) (hf:=fun h=>?_)<;>try exact prn)|refine Au ?_|refine Aq ?_|refine Ar ?_|refine A3 ?_|refine Aj Ab J J J J J J J (Ac Z) J ?_|refine Ae Ab J J J J J J J Z (Ac Z) J ?_|refine Ah Ab J J J J J J J J J J J J J (by simp[Ad];omega) ?_|refine Af Ab J J J J J J J J J J J J J J (by simp[Ad];omega) ?_|refine As J J J J ?_|refine A4 ?_|(refine A5 J J J J J (ht:=fun h=>?_) (hf:=fun h=>?_)<;>try exact prn)|(refine A6 J J J J J (ht:=fun h=>?_) (hf:=fun h=>?_)<;>try exact prn)|refine Ai J J J J J ?_|refine An J J J J J J J (Ac Z) J ?_)
 ·refine AC J (Sub.of_eq ?_);rw[if_neg O]
 ·obtain⟨n,rfl⟩:=Int.eq_ofNat_of_zero_le (by omega:0≤n)
  rw[if_pos ⟨by omega,by omega⟩]
  have hl:=BA (n:=n) O
  refine BC (ι:=Nat×Nat) (fun p=>p.1≤1099511627776∧p.2+(BR p.1).length=(BR n).length+1) (fun p=>[(0,.t (.int .i64 p.1)),(3,.t (.int .i64 p.2))]) (fun _=>[]) (fun p=>p.1) (n,1) ⟨by simp;omega,by simp;omega⟩ ?_ ?_
  ·exact Ce [] (Av J J (Av J J AJ)) J
  rintro⟨m,s⟩ ⟨hm,he⟩
  simp only at hm he
  repeat'(first|refine Ak Ab J J J J J ?_|refine Ap Ab J J J ?_|refine A0 ?_|refine A9 ?_|refine Aw Ab J J ?_|(refine A1 J J J J J (ht:=fun h=>?_) (hf:=fun h=>?_)<;>try exact prn)|(refine A2 J J J J J (ht:=fun h=>?_) (hf:=fun h=>?_)<;>try exact prn)|refine Ag J J J J J ?_|(refine Al J (ht:=fun h=>?_) (hf:=fun h=>?_)<;>try exact prn)|refine Au ?_|refine Aq ?_|refine Ar ?_|refine A3 ?_|refine Aj Ab J J J J J J J (Ac Z) J ?_|refine Ae Ab J J J J J J J Z (Ac Z) J ?_|refine Ah Ab J J J J J J J J J J J J J (by simp[Ad];omega) ?_|refine Af Ab J J J J J J J J J J J J J J (by simp[Ad];omega) ?_|refine As J J J J ?_|refine A4 ?_|(refine A5 J J J J J (ht:=fun h=>?_) (hf:=fun h=>?_)<;>try exact prn)|(refine A6 J J J J J (ht:=fun h=>?_) (hf:=fun h=>?_)<;>try exact prn)|refine Ai J J J J J ?_|refine An J J J J J J J (Ac Z) J ?_)
  ·rw[KE (n:=m) O,List.length_cons]at he
   refine BB (m/128,s+1) ⟨by simp;omega,by simp;omega⟩ (by simp;omega) [] (Av J (congrArg (fun z=>AV.t (T.int .i64 z)) (Aa6 m)) (Av J ?_ AJ)) J
   rw[AW (by simp;omega) (by simp;omega)];rfl
  ·rw[ID (n:=m) O]at he
   refine AC J (Sub.of_eq ?_)
   simp at he⊢;omega
 ·refine AC J (Sub.of_eq ?_);rw[if_neg O]
theorem UU (b:Bs) (n:Nat) (hn:n≤1099511627776) (hb:b.length≤1000000000):
  Ct Tryz.prog 216 [.row 1 1 0 (b.map Bo).length,.t (.int .i64 n)] [(1,.grow 1 (b.map Bo))] (.row 1 1 0 ((b++BR n).map Bo).length) [(1,.grow 1 ((b++BR n).map Bo))]:=by
 refine ct1 Ab Tryz.func216 J J ?_
 have hl:=BA hn
 repeat'(first|refine Ak Ab J J J J J ?_|refine Ap Ab J J J ?_|refine A0 ?_|refine A9 ?_|refine Aw Ab J J ?_|(refine A1 J J J J J (ht:=fun h=>?_) (hf:=fun h=>?_)<;>try exact prn)|(refine A2 J J J J J (ht:=fun h=>?_) (hf:=fun h=>?_)<;>try exact prn)|refine Ag J J J J J ?_|(refine Al J (ht:=fun h=>?_) (hf:=fun h=>?_)<;>try exact prn)|refine Au ?_|refine Aq ?_|refine Ar ?_|refine A3 ?_|refine Aj Ab J J J J J J J (Ac Z) J ?_|refine Ae Ab J J J J J J J Z (Ac Z) J ?_|refine Ah Ab J J J J J J J J J J J J J (by simp[Ad];omega) ?_|refine Af Ab J J J J J J J J J J J J J J (by simp[Ad];omega) ?_|refine As J J J J ?_|refine A4 ?_|(refine A5 J J J J J (ht:=fun h=>?_) (hf:=fun h=>?_)<;>try exact prn)|(refine A6 J J J J J (ht:=fun h=>?_) (hf:=fun h=>?_)<;>try exact prn)|refine Ai J J J J J ?_|refine An J J J J J J J (Ac Z) J ?_)
 refine BC (ι:=Nat×Bs) (fun p=>p.1≤1099511627776∧p.2++BR p.1=b++BR n) (fun p=>[(1,.t (.int .i64 p.1)),(0,.row 1 1 0 (p.2.map Bo).length)]) (fun p=>[(1,.grow 1 (p.2.map Bo))]) (fun p=>p.1) (n,b) ⟨hn,J⟩ ?_ ?_
 ·exact Ce [] (Av J J (Av J J AJ)) J
 rintro⟨m,out⟩ ⟨hm,he⟩
 simp only at hm he
 have hol:out.length≤b.length+6:=by have:=congrArg List.length he;simp at this;omega
 repeat'(first|refine Ak Ab J J J J J ?_|refine Ap Ab J J J ?_|refine A0 ?_|refine A9 ?_|refine Aw Ab J J ?_|(refine A1 J J J J J (ht:=fun h=>?_) (hf:=fun h=>?_)<;>try exact prn)|(refine A2 J J J J J (ht:=fun h=>?_) (hf:=fun h=>?_)<;>try exact prn)|refine Ag J J J J J ?_|(refine Al J (ht:=fun h=>?_) (hf:=fun h=>?_)<;>try exact prn)|refine Au ?_|refine Aq ?_|refine Ar ?_|refine A3 ?_|refine Aj Ab J J J J J J J (Ac Z) J ?_|refine Ae Ab J J J J J J J Z (Ac Z) J ?_|refine Ah Ab J J J J J J J J J J J J J (by simp[Ad];omega) ?_|refine Af Ab J J J J J J J J J J J J J J (by simp[Ad];omega) ?_|refine As J J J J ?_|refine A4 ?_|(refine A5 J J J J J (ht:=fun h=>?_) (hf:=fun h=>?_)<;>try exact prn)|(refine A6 J J J J J (ht:=fun h=>?_) (hf:=fun h=>?_)<;>try exact prn)|refine Ai J J J J J ?_|refine An J J J J J J J (Ac Z) J ?_)
 ·refine BB (m/128,out++[UInt8.ofNat (128+m % 128)]) ⟨by simp;omega,?_⟩ (by simp;omega) [] (Av J (congrArg (fun z=>AV.t (T.int .i64 z)) (Aa6 m)) (Av J (by simp[Ad]) AJ)) ?_
  ·simp only;rw[←he,KE (n:=m) O];simp
  ·have e1:=Ub (n:=m) O
   simp only[List.map_append,List.map_cons,List.map_nil]
   exact congrArg (fun z=>[(1,Blk.grow 1 (List.map Bo out++[[z]]))]) e1
 ·have e2:out++[UInt8.ofNat m]=b++BR n:=by rw[←he,ID O]
  have e1:=Tw (n:=(m:Int)) (m:=m) J O
  refine BO [] J J ?_ (Sub.of_eq ?_)
  ·rw[←e2];simp[Ad,ti5,Bo,GE,C0,e1]
  ·rw[←e2];simp[Ad]
end Go.Proofs.YthjoclecnacdiaaGreatDoor
namespace Go.Proofs.YthjoclecnacdiaaGreatDoor
open Go.Am
attribute [local irreducible] Decidable.decide
set_option maxRecDepth 100000
set_option maxHeartbeats 1000000
theorem Tt (n:Nat):1≤(BR n).length:=by
 by_cases h:n<128
 ·rw[ID h];simp
 ·rw[KE h];simp
theorem VF (n:Nat) (hn:n≤1099511627776):Ct Tryz.prog 213 [.t (.int .i64 n)] [] (.t (.int .i64 ((BR n).length:Int))) []:=by
 have:=Yq n
 rw[if_pos ⟨by omega,by omega⟩]at this
 exact this
theorem R5 (b:Bs) (n:Nat) (hn:n≤1099511627776) (hb:b.length≤1000000000):
  Ct Tryz.prog 191 [.t (.slice .any 1 (b.map Bo)),.t (.int .i64 n)] [] (.tuple [.row 36 1 0 ((b++BR n).map Bo).length,.t (.int .i64 0)]) [(36,.grow 1 ((b++BR n).map Bo))]:=by
 refine ct1 Ab Tryz.func191 J J ?_
 have hl:=BA hn
 have hl1:=Tt n
 have hlm:(b.map Bo).length=b.length:=List.length_map ..
 have hcn:IntKind.i64.wrap (((b.map Bo).length:Int)+((BR n).length:Int))=(((b.map Bo).length+(BR n).length:Nat):Int):=by
  rw[AW O O];omega
 repeat'(first|refine Ak Ab J J J J J ?_|refine Ap Ab J J J ?_|refine A0 ?_|refine A9 ?_|refine Aw Ab J J ?_|(refine A1 J J J J J (ht:=fun h=>?_) (hf:=fun h=>?_)<;>try exact prn)|(refine A2 J J J J J (ht:=fun h=>?_) (hf:=fun h=>?_)<;>try exact prn)|refine Ag J J J J J ?_|(refine Al J (ht:=fun h=>?_) (hf:=fun h=>?_)<;>try exact prn)|refine Au ?_|refine Aq ?_|refine Ar ?_|refine A3 ?_|refine Aj Ab J J J J J J J (Ac Z) J ?_|refine Ae Ab J J J J J J J Z (Ac Z) J ?_|refine Ah Ab J J J J J J J J J J J J J (by simp[Ad];omega) ?_|refine Af Ab J J J J J J J J J J J J J J (by simp[Ad];omega) ?_|refine As J J J J ?_|refine A4 ?_|(refine A5 J J J J J (ht:=fun h=>?_) (hf:=fun h=>?_)<;>try exact prn)|(refine A6 J J J J J (ht:=fun h=>?_) (hf:=fun h=>?_)<;>try exact prn)|refine Ai J J J J J ?_|refine An J J J J J J J (Ac Z) J ?_|refine A7 Ab J J J J J J J (VF n hn) J J ?_|refine JJ Ab J J J J J J J J hcn J J O O ?_|refine XL Ab J J J J J J J J J J Y Y J ?_|refine AR Ab [(36,1)] [(1,36)] J J J J J (UU b n hn hb) J J J J J ?_)
 refine BO [] J J J (Sub.refl _)
theorem Tu (b:Bs) (n:Int) (h0:0≤n) (hn:n≤1099511627776) (hb:b.length≤1000000000):
  Ct Tryz.prog 191 [.t (.slice .any 1 (b.map Bo)),.t (.int .i64 n)] [] (.tuple [.t (.slice .any 1 ((b++BR n.toNat).map Bo)),.t (.int .i64 0)]) []:=by
 obtain⟨m,rfl⟩:=Int.eq_ofNat_of_zero_le h0
 exact(R5 b m O hb).freeze2
theorem CW (b:Bs) (n:Int) (h0:0≤n) (hn:n≤1099511627776) (hb:b.length≤1000000000):
  Ct Tryz.prog 181 [.t (.slice .any 1 (b.map Bo)),.t (.int .i64 n)] [] (.tuple [.t (.slice .any 1 ((b++BR n.toNat).map Bo)),.t (.int .i64 0)]) []:=by
 refine ct0 Ab Tryz.func181 J false J J ?_
 repeat'(first|refine Ak Ab J J J J J ?_|refine Ap Ab J J J ?_|refine A0 ?_|refine A9 ?_|refine Aw Ab J J ?_|(refine A1 J J J J J (ht:=fun h=>?_) (hf:=fun h=>?_)<;>try exact prn)|(refine A2 J J J J J (ht:=fun h=>?_) (hf:=fun h=>?_)<;>try exact prn)|refine Ag J J J J J ?_|(refine Al J (ht:=fun h=>?_) (hf:=fun h=>?_)<;>try exact prn)|refine Au ?_|refine Aq ?_|refine Ar ?_|refine A3 ?_|refine Aj Ab J J J J J J J (Ac Z) J ?_|refine Ae Ab J J J J J J J Z (Ac Z) J ?_|refine Ah Ab J J J J J J J J J J J J J (by simp[Ad];omega) ?_|refine Af Ab J J J J J J J J J J J J J J (by simp[Ad];omega) ?_|refine As J J J J ?_|refine A4 ?_|(refine A5 J J J J J (ht:=fun h=>?_) (hf:=fun h=>?_)<;>try exact prn)|(refine A6 J J J J J (ht:=fun h=>?_) (hf:=fun h=>?_)<;>try exact prn)|refine Ai J J J J J ?_|refine An J J J J J J J (Ac Z) J ?_|refine A7 Ab J J J J J J J (Tu _ _ h0 hn hb) J J ?_)
 exact AC J (Sub.refl _)
theorem Pv (b s:Bs) (hs:s.length≤1024) (hb:b.length≤1000000000):
  Ct Tryz.prog 147 [.t (.slice .any 1 (b.map Bo)),.t (.str s)] [] (.tuple [.t (.slice .any 1 ((b++G6 s).map Bo)),.t (.int .i64 0)]) []:=by
 refine ct0 Ab Tryz.func147 J false J J ?_
 have hl:=BA (n:=s.length) O
 repeat'(first|refine Ak Ab J J J J J ?_|refine Ap Ab J J J ?_|refine A0 ?_|refine A9 ?_|refine Aw Ab J J ?_|(refine A1 J J J J J (ht:=fun h=>?_) (hf:=fun h=>?_)<;>try exact prn)|(refine A2 J J J J J (ht:=fun h=>?_) (hf:=fun h=>?_)<;>try exact prn)|refine Ag J J J J J ?_|(refine Al J (ht:=fun h=>?_) (hf:=fun h=>?_)<;>try exact prn)|refine Au ?_|refine Aq ?_|refine Ar ?_|refine A3 ?_|refine Aj Ab J J J J J J J (Ac Z) J ?_|refine Ae Ab J J J J J J J Z (Ac Z) J ?_|refine Ah Ab J J J J J J J J J J J J J (by simp[Ad];omega) ?_|refine Af Ab J J J J J J J J J J J J J J (by simp[Ad];omega) ?_|refine As J J J J ?_|refine A4 ?_|(refine A5 J J J J J (ht:=fun h=>?_) (hf:=fun h=>?_)<;>try exact prn)|(refine A6 J J J J J (ht:=fun h=>?_) (hf:=fun h=>?_)<;>try exact prn)|refine Ai J J J J J ?_|refine An J J J J J J J (Ac Z) J ?_|refine AR Ab [] [(36,30)] J J J J J (R5 _ s.length O hb) J J J J J ?_|refine Ts Ab J J J J J J J J J J J J J J (by simp[Fm];omega) ?_)
 refine AC J (Sub.of_eq ?_)
 simp[D1,G6,N0]
 exact List.take_of_length_le Y
end Go.Proofs.YthjoclecnacdiaaGreatDoor
namespace Go.Proofs.YthjoclecnacdiaaGreatDoor
open Go.Am
attribute [local irreducible] Decidable.decide
set_option maxRecDepth 100000
set_option maxHeartbeats 1000000
theorem VI (n:Nat) (h0:0<n) (hn:n≤10000000000):
  Ct Tryz.prog 217 [.t (.slice .nil 0 []),.t (.int .i64 n)] [] (.row 44 1 0 0) [(44,.grow 1 [])]:=by
 refine ct1 Ab Tryz.func217 J J ?_
 have hw:IntKind.i64.wrap ((n:Int)-IntKind.i64.wrap (0-((([]:List (List T)).length:Nat):Int)))=(n:Int):=by
  have:IntKind.i64.wrap (0-((([]:List (List T)).length:Nat):Int))=0:=by rw[AW Y Y];simp
  rw[this,AW O O];omega
 repeat'(first|refine Ak Ab J J J J J ?_|refine Ap Ab J J J ?_|refine A0 ?_|refine A9 ?_|refine Aw Ab J J ?_|(refine A1 J J J J J (ht:=fun h=>?_) (hf:=fun h=>?_)<;>try exact prn)|(refine A2 J J J J J (ht:=fun h=>?_) (hf:=fun h=>?_)<;>try exact prn)|refine Ag J J J J J ?_|(refine Al J (ht:=fun h=>?_) (hf:=fun h=>?_)<;>try exact prn)|refine Au ?_|refine Aq ?_|refine Ar ?_|refine A3 ?_|refine Aj Ab J J J J J J J (Ac Z) J ?_|refine Ae Ab J J J J J J J Z (Ac Z) J ?_|refine Ah Ab J J J J J J J J J J J J J (by simp[Ad];omega) ?_|refine Af Ab J J J J J J J J J J J J J J (by simp[Ad];omega) ?_|refine As J J J J ?_|refine A4 ?_|(refine A5 J J J J J (ht:=fun h=>?_) (hf:=fun h=>?_)<;>try exact prn)|(refine A6 J J J J J (ht:=fun h=>?_) (hf:=fun h=>?_)<;>try exact prn)|refine Ai J J J J J ?_|refine An J J J J J J J (Ac Z) J ?_|refine Tq Ab J J J J J J J J ?_|refine N4 Ab J J J J J J J J J J J hw J J h0 O ?_)
 exact BO [] J J J (Sub.refl _)
def Kz (b:Bs):List T:=[.slice .any 1 (b.map Bo)]
theorem HV {l:List Bs} {i:Nat}:(l.take i).flatten.length≤l.flatten.length:=by
 have:l.flatten=(l.take i).flatten++(l.drop i).flatten:=by rw[←List.flatten_append,List.take_append_drop]
 rw[this,List.length_append];omega
theorem He {l:List Bs} {i:Nat} {b:Bs} (h:l[i]?=some b):(l.take (i+1)).flatten=(l.take i).flatten++b:=by
 rw[BK h,List.flatten_append];simp
theorem Td (l:List Bs) (h0:0<l.flatten.length) (hn:l.flatten.length≤10000000000) (hll:l.length≤1000000):
  Ct Tryz.prog 193 [.t (.slice .any 1 (l.map Kz))] [] (.t (.slice .any 1 (l.flatten.map Bo))) []:=by
 refine ct0 Ab Tryz.func193 J false J J ?_
 have hlm:(l.map Kz).length=l.length:=List.length_map ..
 repeat'(first|refine Ak Ab J J J J J ?_|refine Ap Ab J J J ?_|refine A0 ?_|refine A9 ?_|refine Aw Ab J J ?_|(refine A1 J J J J J (ht:=fun h=>?_) (hf:=fun h=>?_)<;>try exact prn)|(refine A2 J J J J J (ht:=fun h=>?_) (hf:=fun h=>?_)<;>try exact prn)|refine Ag J J J J J ?_|(refine Al J (ht:=fun h=>?_) (hf:=fun h=>?_)<;>try exact prn)|refine Au ?_|refine Aq ?_|refine Ar ?_|refine A3 ?_|refine Aj Ab J J J J J J J (Ac Z) J ?_|refine Ae Ab J J J J J J J Z (Ac Z) J ?_|refine Ah Ab J J J J J J J J J J J J J (by simp[Ad];omega) ?_|refine Af Ab J J J J J J J J J J J J J J (by simp[Ad];omega) ?_|refine As J J J J ?_|refine A4 ?_|(refine A5 J J J J J (ht:=fun h=>?_) (hf:=fun h=>?_)<;>try exact prn)|(refine A6 J J J J J (ht:=fun h=>?_) (hf:=fun h=>?_)<;>try exact prn)|refine Ai J J J J J ?_|refine An J J J J J J J (Ac Z) J ?_)
 refine BC (ι:=Nat) (fun i=>i≤l.length) (fun i=>[(0,.t (.slice .any 1 (l.map Kz))),(9,.t (.slice .any 1 (l.map Kz))),(10,.t (.int .i64 ((l.map Kz).length:Int))),(11,.t (.int .i64 i)),(3,.t (.int .i64 ((l.take i).flatten.length:Int)))]) (fun _=>[]) (fun i=>l.length-i) 0 Y ?_ ?_
 ·exact Ce [] (Av J J (Av J J (Av J J (Av J J (Av J J AJ))))) J
 rintro i hi
 by_cases hlt:i<l.length
 ·have hr:l[i]?=some l[i]:=List.getElem?_eq_getElem hlt
  generalize l[i]=r at hr
  have hs:=He hr
  have hsl:=congrArg List.length hs
  rw[List.length_append]at hsl
  have hle:=HV (l:=l) (i:=i+1)
  have hrm:(r.map Bo).length=r.length:=List.length_map ..
  have hw:IntKind.i64.wrap (((l.take i).flatten.length:Int)+((r.map Bo).length:Int))=((l.take (i+1)).flatten.length:Int):=by
   rw[AW O O];omega
  repeat'(first|refine Ak Ab J J J J J ?_|refine Ap Ab J J J ?_|refine A0 ?_|refine A9 ?_|refine Aw Ab J J ?_|(refine A1 J J J J J (ht:=fun h=>?_) (hf:=fun h=>?_)<;>try exact prn)|(refine A2 J J J J J (ht:=fun h=>?_) (hf:=fun h=>?_)<;>try exact prn)|refine Ag J J J J J ?_|(refine Al J (ht:=fun h=>?_) (hf:=fun h=>?_)<;>try exact prn)|refine Au ?_|refine Aq ?_|refine Ar ?_|refine A3 ?_|refine Aj Ab J J J J J J J (Ac Z) J ?_|refine Ae Ab J J J J J J J Z (Ac Z) J ?_|refine Ah Ab J J J J J J J J J J J J J (by simp[Ad];omega) ?_|refine Af Ab J J J J J J J J J J J J J J (by simp[Ad];omega) ?_|refine As J J J J ?_|refine A4 ?_|(refine A5 J J J J J (ht:=fun h=>?_) (hf:=fun h=>?_)<;>try exact prn)|(refine A6 J J J J J (ht:=fun h=>?_) (hf:=fun h=>?_)<;>try exact prn)|refine Ai J J J J J ?_|refine An J J J J J J J (Ac Z) J ?_)
  refine BB (i+1) O O [] (Av J J (Av J J (Av J J (Av J ?_ (Av J (congrArg (fun z=>AV.t (T.int .i64 z)) hw) AJ))))) J
  rw[AW O O];rfl
 ·have hall:l.take i=l:=List.take_of_length_le O
  repeat'(first|refine Ak Ab J J J J J ?_|refine Ap Ab J J J ?_|refine A0 ?_|refine A9 ?_|refine Aw Ab J J ?_|(refine A1 J J J J J (ht:=fun h=>?_) (hf:=fun h=>?_)<;>try exact prn)|(refine A2 J J J J J (ht:=fun h=>?_) (hf:=fun h=>?_)<;>try exact prn)|refine Ag J J J J J ?_|(refine Al J (ht:=fun h=>?_) (hf:=fun h=>?_)<;>try exact prn)|refine Au ?_|refine Aq ?_|refine Ar ?_|refine A3 ?_|refine Aj Ab J J J J J J J (Ac Z) J ?_|refine Ae Ab J J J J J J J Z (Ac Z) J ?_|refine Ah Ab J J J J J J J J J J J J J (by simp[Ad];omega) ?_|refine Af Ab J J J J J J J J J J J J J J (by simp[Ad];omega) ?_|refine As J J J J ?_|refine A4 ?_|(refine A5 J J J J J (ht:=fun h=>?_) (hf:=fun h=>?_)<;>try exact prn)|(refine A6 J J J J J (ht:=fun h=>?_) (hf:=fun h=>?_)<;>try exact prn)|refine Ai J J J J J ?_|refine An J J J J J J J (Ac Z) J ?_|refine AR Ab [] [(44,48)] J J J J J (VI (l.take i).flatten.length (by rw[hall];exact h0) (by rw[hall];exact hn)) J J J J J ?_)
  refine BC (ι:=Nat) (fun j=>j≤l.length) (fun j=>[(25,.t (.slice .any 1 (l.map Kz))),(26,.t (.int .i64 ((l.map Kz).length:Int))),(27,.t (.int .i64 j)),(6,.row 48 1 0 (((l.take j).flatten).map Bo).length)]) (fun j=>[(48,.grow 1 (((l.take j).flatten).map Bo))]) (fun j=>l.length-j) 0 Y ?_ ?_
  ·exact Ce [] (Av J J (Av J J (Av J J (Av J J AJ)))) J
  rintro j hj
  by_cases hlt2:j<l.length
  ·have hr:l[j]?=some l[j]:=List.getElem?_eq_getElem hlt2
   generalize l[j]=r at hr
   have hs:=He hr
   have hsl:=congrArg List.length hs
   rw[List.length_append]at hsl
   have hle:=HV (l:=l) (i:=j+1)
   repeat'(first|refine Ak Ab J J J J J ?_|refine Ap Ab J J J ?_|refine A0 ?_|refine A9 ?_|refine Aw Ab J J ?_|(refine A1 J J J J J (ht:=fun h=>?_) (hf:=fun h=>?_)<;>try exact prn)|(refine A2 J J J J J (ht:=fun h=>?_) (hf:=fun h=>?_)<;>try exact prn)|refine Ag J J J J J ?_|(refine Al J (ht:=fun h=>?_) (hf:=fun h=>?_)<;>try exact prn)|refine Au ?_|refine Aq ?_|refine Ar ?_|refine A3 ?_|refine Aj Ab J J J J J J J (Ac Z) J ?_|refine Ae Ab J J J J J J J Z (Ac Z) J ?_|refine Ah Ab J J J J J J J J J J J J J (by simp[Ad];omega) ?_|refine Af Ab J J J J J J J J J J J J J J (by simp[Ad];omega) ?_|refine As J J J J ?_|refine A4 ?_|(refine A5 J J J J J (ht:=fun h=>?_) (hf:=fun h=>?_)<;>try exact prn)|(refine A6 J J J J J (ht:=fun h=>?_) (hf:=fun h=>?_)<;>try exact prn)|refine Ai J J J J J ?_|refine An J J J J J J J (Ac Z) J ?_|refine Af Ab J J J J J J J J J J J J J J (by simp only[List.length_append,List.length_map];omega) ?_)
   refine BB (j+1) O O [] (Av J J (Av J J (Av J ?_ (Av J ?_ AJ)))) ?_
   ·rw[AW O O];rfl
   ·rw[hs,List.map_append]
   ·rw[hs,List.map_append];rfl
  ·have hall2:l.take j=l:=List.take_of_length_le O
   repeat'(first|refine Ak Ab J J J J J ?_|refine Ap Ab J J J ?_|refine A0 ?_|refine A9 ?_|refine Aw Ab J J ?_|(refine A1 J J J J J (ht:=fun h=>?_) (hf:=fun h=>?_)<;>try exact prn)|(refine A2 J J J J J (ht:=fun h=>?_) (hf:=fun h=>?_)<;>try exact prn)|refine Ag J J J J J ?_|(refine Al J (ht:=fun h=>?_) (hf:=fun h=>?_)<;>try exact prn)|refine Au ?_|refine Aq ?_|refine Ar ?_|refine A3 ?_|refine Aj Ab J J J J J J J (Ac Z) J ?_|refine Ae Ab J J J J J J J Z (Ac Z) J ?_|refine Ah Ab J J J J J J J J J J J J J (by simp[Ad];omega) ?_|refine Af Ab J J J J J J J J J J J J J J (by simp[Ad];omega) ?_|refine As J J J J ?_|refine A4 ?_|(refine A5 J J J J J (ht:=fun h=>?_) (hf:=fun h=>?_)<;>try exact prn)|(refine A6 J J J J J (ht:=fun h=>?_) (hf:=fun h=>?_)<;>try exact prn)|refine Ai J J J J J ?_|refine An J J J J J J J (Ac Z) J ?_)
   refine AC J (Sub.of_eq ?_)
   rw[hall2];exact Uu 48 1 _
end Go.Proofs.YthjoclecnacdiaaGreatDoor
namespace Go.Proofs.YthjoclecnacdiaaGreatDoor
open Go.Am
attribute [local irreducible] Decidable.decide
set_option maxRecDepth 100000
set_option maxHeartbeats 1000000
theorem P3 (b:Bs) (y:Bool) (hb:b.length≤1000000000):
  Ct Tryz.prog 149 [.t (.slice .any 1 (b.map Bo)),.t (.bool y)] [] (.t (.slice .any 1 ((b++GD y).map Bo))) []:=by
 have cc: ∀f:Bs,f.length=1→Ct Tryz.prog 193 [.t (.slice .any 1 ([b,f].map Kz))] [] (.t (.slice .any 1 ((b++f).map Bo))) []:=fun f hf=>by
  have:=Td [b,f] (by simp;omega) (by simp;omega) Y
  simpa using this
 refine ct0 Ab Tryz.func149 J false J J ?_
 refine A9 ?_
 refine Aw Ab J J ?_
 refine Ap Ab J J J ?_
 refine A0 ?_
 refine A9 ?_
 refine Aw Ab J J ?_
 refine UR Ab J J J J J J J J ?_
 cases y with
 |false=>
  repeat'(first|refine Ak Ab J J J J J ?_|refine Ap Ab J J J ?_|refine A0 ?_|refine A9 ?_|refine Aw Ab J J ?_|(refine A1 J J J J J (ht:=fun h=>?_) (hf:=fun h=>?_)<;>try exact prn)|(refine A2 J J J J J (ht:=fun h=>?_) (hf:=fun h=>?_)<;>try exact prn)|refine Ag J J J J J ?_|(refine Al J (ht:=fun h=>?_) (hf:=fun h=>?_)<;>try exact prn)|refine Au ?_|refine Aq ?_|refine Ar ?_|refine A3 ?_|refine Aj Ab J J J J J J J (Ac Z) J ?_|refine Ae Ab J J J J J J J Z (Ac Z) J ?_|refine Ah Ab J J J J J J J J J J J J J (by simp[Ad];omega) ?_|refine Af Ab J J J J J J J J J J J J J J (by simp[Ad];omega) ?_|refine As J J J J ?_|refine A4 ?_|(refine A5 J J J J J (ht:=fun h=>?_) (hf:=fun h=>?_)<;>try exact prn)|(refine A6 J J J J J (ht:=fun h=>?_) (hf:=fun h=>?_)<;>try exact prn)|refine Ai J J J J J ?_|refine An J J J J J J J (Ac Z) J ?_|refine H1 Ab J J J J (cc [0] J) J J J ⟨H4,trivial⟩ ?_)
  exact AC J (Sub.refl _)
 |true=>
  repeat'(first|refine Ak Ab J J J J J ?_|refine Ap Ab J J J ?_|refine A0 ?_|refine A9 ?_|refine Aw Ab J J ?_|(refine A1 J J J J J (ht:=fun h=>?_) (hf:=fun h=>?_)<;>try exact prn)|(refine A2 J J J J J (ht:=fun h=>?_) (hf:=fun h=>?_)<;>try exact prn)|refine Ag J J J J J ?_|(refine Al J (ht:=fun h=>?_) (hf:=fun h=>?_)<;>try exact prn)|refine Au ?_|refine Aq ?_|refine Ar ?_|refine A3 ?_|refine Aj Ab J J J J J J J (Ac Z) J ?_|refine Ae Ab J J J J J J J Z (Ac Z) J ?_|refine Ah Ab J J J J J J J J J J J J J (by simp[Ad];omega) ?_|refine Af Ab J J J J J J J J J J J J J J (by simp[Ad];omega) ?_|refine As J J J J ?_|refine A4 ?_|(refine A5 J J J J J (ht:=fun h=>?_) (hf:=fun h=>?_)<;>try exact prn)|(refine A6 J J J J J (ht:=fun h=>?_) (hf:=fun h=>?_)<;>try exact prn)|refine Ai J J J J J ?_|refine An J J J J J J J (Ac Z) J ?_|refine H1 Ab J J J J (cc [1] J) J J J ⟨H4,trivial⟩ ?_)
  exact AC J (Sub.refl _)
end Go.Proofs.YthjoclecnacdiaaGreatDoor
namespace Go.Proofs.YthjoclecnacdiaaGreatDoor
open Go.Am
attribute [local irreducible] Decidable.decide
set_option maxRecDepth 100000
set_option maxHeartbeats 1000000
def Ku {α:Type} (p:α→Bool) (l:List α):Int:=match l.findIdx? p with
 |some i=>(i:Int)
 |none=> -1
theorem Ur {α:Type} {p:α→Bool} {l:List α} {i:Nat} {x:α} (h:l[i]?=some x) (ha:(l.take i).any p=false) (hp:p x=true):Ku p l=(i:Int):=by
 have hlt:i<l.length:=(List.getElem?_eq_some_iff.1 h).1
 have:l.findIdx? p=some i:=by
  rw[List.findIdx?_eq_some_iff_getElem]
  refine⟨hlt,by obtain⟨_,rfl⟩:=List.getElem?_eq_some_iff.1 h;exact hp,fun j hj=>?_⟩
  have:=List.any_eq_false.1 ha (l[j]' O) (by rw[List.mem_take_iff_getElem];exact⟨j,by omega,J⟩)
  simpa using this
 simp[Ku,this]
theorem LN {α:Type} {p:α→Bool} {l:List α} (h:l.any p=false):Ku p l= -1:=by
 have:l.findIdx? p=none:=by
  rw[List.findIdx?_eq_none_iff];intro x hx;have:=List.any_eq_false.1 h x hx;simpa using this
 simp[Ku,this]
theorem KQ {α:Type} (p:α→Bool) (l:List α):(0≤Ku p l)↔l.any p=true:=by
 cases h:l.any p with
 |false=>rw[LN h];simp
 |true=>
  have: ∃i,l.findIdx? p=some i:=by
   cases hf:l.findIdx? p with
   |some i=>exact⟨i,J⟩
   |none=>rw[List.findIdx?_eq_none_iff]at hf;rw[List.any_eq_true]at h;obtain⟨x,hx,hp⟩:=h;have:=hf x hx;simp[hp]at this
  obtain⟨i,hi⟩:=this
  simp[Ku,hi]
theorem OZ (fnum:Nat) (cap:List T) (p:Rec→Bool) (l:List Rec) (hl:l.length≤1000000000) (hf: ∀r,Ct Tryz.prog fnum (.agg (AA (Bk r))::AA cap) [] (.t (.bool (p r))) []) (hfr:Dz (AA cap)=true):
  Ct Tryz.prog 197 [.t (.slice .any 2 (l.map Bk)),.t (.func (.func fnum) [] cap)] [] (.t (.int .i64 (Ku p l))) []:=by
 refine ct0 Ab Tryz.func197 J false J J ?_
 have hlm:(l.map Bk).length=l.length:=List.length_map ..
 repeat'(first|refine Ak Ab J J J J J ?_|refine Ap Ab J J J ?_|refine A0 ?_|refine A9 ?_|refine Aw Ab J J ?_|(refine A1 J J J J J (ht:=fun h=>?_) (hf:=fun h=>?_)<;>try exact prn)|(refine A2 J J J J J (ht:=fun h=>?_) (hf:=fun h=>?_)<;>try exact prn)|refine Ag J J J J J ?_|(refine Al J (ht:=fun h=>?_) (hf:=fun h=>?_)<;>try exact prn)|refine Au ?_|refine Aq ?_|refine Ar ?_|refine A3 ?_|refine Aj Ab J J J J J J J (Ac Z) J ?_|refine Ae Ab J J J J J J J Z (Ac Z) J ?_|refine Ah Ab J J J J J J J J J J J J J (by simp[Ad];omega) ?_|refine Af Ab J J J J J J J J J J J J J J (by simp[Ad];omega) ?_|refine As J J J J ?_|refine A4 ?_|(refine A5 J J J J J (ht:=fun h=>?_) (hf:=fun h=>?_)<;>try exact prn)|(refine A6 J J J J J (ht:=fun h=>?_) (hf:=fun h=>?_)<;>try exact prn)|refine Ai J J J J J ?_|refine An J J J J J J J (Ac Z) J ?_)
 refine BC (ι:=Nat) (fun i=>i≤l.length∧(l.take i).any p=false) (fun i=>[(0,.t (.slice .any 2 (l.map Bk))),(1,.t (.func (.func fnum) [] cap)),(7,.t (.int .i64 ((l.map Bk).length:Int))),(8,.t (.int .i64 i))]) (fun _=>[]) (fun i=>l.length-i) 0 Y ?_ ?_
 ·exact Ce [] (Av J J (Av J J (Av J J (Av J J AJ)))) J
 rintro i ⟨hi,hany⟩
 by_cases hlt:i<l.length
 ·have hr:l[i]?=some l[i]:=List.getElem?_eq_getElem hlt
  generalize l[i]=r at hr
  repeat'(first|refine Ak Ab J J J J J ?_|refine Ap Ab J J J ?_|refine A0 ?_|refine A9 ?_|refine Aw Ab J J ?_|(refine A1 J J J J J (ht:=fun h=>?_) (hf:=fun h=>?_)<;>try exact prn)|(refine A2 J J J J J (ht:=fun h=>?_) (hf:=fun h=>?_)<;>try exact prn)|refine Ag J J J J J ?_|(refine Al J (ht:=fun h=>?_) (hf:=fun h=>?_)<;>try exact prn)|refine Au ?_|refine Aq ?_|refine Ar ?_|refine A3 ?_|refine Aj Ab J J J J J J J (Ac Z) J ?_|refine Ae Ab J J J J J J J Z (Ac Z) J ?_|refine Ah Ab J J J J J J J J J J J J J (by simp[Ad];omega) ?_|refine Af Ab J J J J J J J J J J J J J J (by simp[Ad];omega) ?_|refine As J J J J ?_|refine A4 ?_|(refine A5 J J J J J (ht:=fun h=>?_) (hf:=fun h=>?_)<;>try exact prn)|(refine A6 J J J J J (ht:=fun h=>?_) (hf:=fun h=>?_)<;>try exact prn)|refine Ai J J J J J ?_|refine An J J J J J J J (Ac Z) J ?_|refine A7 Ab J J J J J J hfr (hf r) J J ?_)
  ·exact AC J (Sub.of_eq (by rw[Ur hr hany h]))
  ·refine BB (i+1) ⟨hlt,HZ hr hany (by simpa using h)⟩ O [] (Av J J (Av J J (Av J J (Av J ?_ AJ)))) J
   rw[AW O O];rfl
 ·repeat'(first|refine Ak Ab J J J J J ?_|refine Ap Ab J J J ?_|refine A0 ?_|refine A9 ?_|refine Aw Ab J J ?_|(refine A1 J J J J J (ht:=fun h=>?_) (hf:=fun h=>?_)<;>try exact prn)|(refine A2 J J J J J (ht:=fun h=>?_) (hf:=fun h=>?_)<;>try exact prn)|refine Ag J J J J J ?_|(refine Al J (ht:=fun h=>?_) (hf:=fun h=>?_)<;>try exact prn)|refine Au ?_|refine Aq ?_|refine Ar ?_|refine A3 ?_|refine Aj Ab J J J J J J J (Ac Z) J ?_|refine Ae Ab J J J J J J J Z (Ac Z) J ?_|refine Ah Ab J J J J J J J J J J J J J (by simp[Ad];omega) ?_|refine Af Ab J J J J J J J J J J J J J J (by simp[Ad];omega) ?_|refine As J J J J ?_|refine A4 ?_|(refine A5 J J J J J (ht:=fun h=>?_) (hf:=fun h=>?_)<;>try exact prn)|(refine A6 J J J J J (ht:=fun h=>?_) (hf:=fun h=>?_)<;>try exact prn)|refine Ai J J J J J ?_|refine An J J J J J J J (Ac Z) J ?_)
  exact AC J (Sub.of_eq (by rw[LN (JC O hany)]))
theorem Me (fnum:Nat) (cap:List T) (p:Rec→Bool) (l:List Rec) (hl:l.length≤1000000000) (hf: ∀r,Ct Tryz.prog fnum (.agg (AA (Bk r))::AA cap) [] (.t (.bool (p r))) []) (hfr:Dz (AA cap)=true):
  Ct Tryz.prog 162 [.t (.slice .any 2 (l.map Bk)),.t (.func (.func fnum) [] cap)] [] (.t (.bool (l.any p))) []:=by
 refine ct0 Ab Tryz.func162 J false J J ?_
 repeat'(first|refine Ak Ab J J J J J ?_|refine Ap Ab J J J ?_|refine A0 ?_|refine A9 ?_|refine Aw Ab J J ?_|(refine A1 J J J J J (ht:=fun h=>?_) (hf:=fun h=>?_)<;>try exact prn)|(refine A2 J J J J J (ht:=fun h=>?_) (hf:=fun h=>?_)<;>try exact prn)|refine Ag J J J J J ?_|(refine Al J (ht:=fun h=>?_) (hf:=fun h=>?_)<;>try exact prn)|refine Au ?_|refine Aq ?_|refine Ar ?_|refine A3 ?_|refine Aj Ab J J J J J J J (Ac Z) J ?_|refine Ae Ab J J J J J J J Z (Ac Z) J ?_|refine Ah Ab J J J J J J J J J J J J J (by simp[Ad];omega) ?_|refine Af Ab J J J J J J J J J J J J J J (by simp[Ad];omega) ?_|refine As J J J J ?_|refine A4 ?_|(refine A5 J J J J J (ht:=fun h=>?_) (hf:=fun h=>?_)<;>try exact prn)|(refine A6 J J J J J (ht:=fun h=>?_) (hf:=fun h=>?_)<;>try exact prn)|refine Ai J J J J J ?_|refine An J J J J J J J (Ac Z) J ?_|refine A7 Ab J J J J J J J (OZ fnum cap p l hl hf hfr) J J ?_)
 refine AC J (BN ?_)
 rw[←Bool.eq_iff_iff.2 ⟨fun h=>(KQ p l).1 (of_decide_eq_true h),fun h=>decide_eq_true ((KQ p l).2 h)⟩]
theorem OY (fnum:Nat) (cap:List T) (p:Row→Bool) (l:List Row) (hl:l.length≤1000000000) (hf: ∀r,Ct Tryz.prog fnum (.agg (AA (AK r))::AA cap) [] (.t (.bool (p r))) []) (hfr:Dz (AA cap)=true):
  Ct Tryz.prog 86 [.t (.slice .any 5 (l.map AK)),.t (.func (.func fnum) [] cap)] [] (.t (.int .i64 (Ku p l))) []:=by
 refine ct0 Ab Tryz.func86 J false J J ?_
 have hlm:(l.map AK).length=l.length:=List.length_map ..
 repeat'(first|refine Ak Ab J J J J J ?_|refine Ap Ab J J J ?_|refine A0 ?_|refine A9 ?_|refine Aw Ab J J ?_|(refine A1 J J J J J (ht:=fun h=>?_) (hf:=fun h=>?_)<;>try exact prn)|(refine A2 J J J J J (ht:=fun h=>?_) (hf:=fun h=>?_)<;>try exact prn)|refine Ag J J J J J ?_|(refine Al J (ht:=fun h=>?_) (hf:=fun h=>?_)<;>try exact prn)|refine Au ?_|refine Aq ?_|refine Ar ?_|refine A3 ?_|refine Aj Ab J J J J J J J (Ac Z) J ?_|refine Ae Ab J J J J J J J Z (Ac Z) J ?_|refine Ah Ab J J J J J J J J J J J J J (by simp[Ad];omega) ?_|refine Af Ab J J J J J J J J J J J J J J (by simp[Ad];omega) ?_|refine As J J J J ?_|refine A4 ?_|(refine A5 J J J J J (ht:=fun h=>?_) (hf:=fun h=>?_)<;>try exact prn)|(refine A6 J J J J J (ht:=fun h=>?_) (hf:=fun h=>?_)<;>try exact prn)|refine Ai J J J J J ?_|refine An J J J J J J J (Ac Z) J ?_)
 refine BC (ι:=Nat) (fun i=>i≤l.length∧(l.take i).any p=false) (fun i=>[(0,.t (.slice .any 5 (l.map AK))),(1,.t (.func (.func fnum) [] cap)),(7,.t (.int .i64 ((l.map AK).length:Int))),(8,.t (.int .i64 i))]) (fun _=>[]) (fun i=>l.length-i) 0 Y ?_ ?_
 ·exact Ce [] (Av J J (Av J J (Av J J (Av J J AJ)))) J
 rintro i ⟨hi,hany⟩
 by_cases hlt:i<l.length
 ·have hr:l[i]?=some l[i]:=List.getElem?_eq_getElem hlt
  generalize l[i]=r at hr
  repeat'(first|refine Ak Ab J J J J J ?_|refine Ap Ab J J J ?_|refine A0 ?_|refine A9 ?_|refine Aw Ab J J ?_|(refine A1 J J J J J (ht:=fun h=>?_) (hf:=fun h=>?_)<;>try exact prn)|(refine A2 J J J J J (ht:=fun h=>?_) (hf:=fun h=>?_)<;>try exact prn)|refine Ag J J J J J ?_|(refine Al J (ht:=fun h=>?_) (hf:=fun h=>?_)<;>try exact prn)|refine Au ?_|refine Aq ?_|refine Ar ?_|refine A3 ?_|refine Aj Ab J J J J J J J (Ac Z) J ?_|refine Ae Ab J J J J J J J Z (Ac Z) J ?_|refine Ah Ab J J J J J J J J J J J J J (by simp[Ad];omega) ?_|refine Af Ab J J J J J J J J J J J J J J (by simp[Ad];omega) ?_|refine As J J J J ?_|refine A4 ?_|(refine A5 J J J J J (ht:=fun h=>?_) (hf:=fun h=>?_)<;>try exact prn)|(refine A6 J J J J J (ht:=fun h=>?_) (hf:=fun h=>?_)<;>try exact prn)|refine Ai J J J J J ?_|refine An J J J J J J J (Ac Z) J ?_|refine A7 Ab J J J J J J hfr (hf r) J J ?_)
  ·exact AC J (Sub.of_eq (by rw[Ur hr hany h]))
  ·refine BB (i+1) ⟨hlt,HZ hr hany (by simpa using h)⟩ O [] (Av J J (Av J J (Av J J (Av J ?_ AJ)))) J
   rw[AW O O];rfl
 ·repeat'(first|refine Ak Ab J J J J J ?_|refine Ap Ab J J J ?_|refine A0 ?_|refine A9 ?_|refine Aw Ab J J ?_|(refine A1 J J J J J (ht:=fun h=>?_) (hf:=fun h=>?_)<;>try exact prn)|(refine A2 J J J J J (ht:=fun h=>?_) (hf:=fun h=>?_)<;>try exact prn)|refine Ag J J J J J ?_|(refine Al J (ht:=fun h=>?_) (hf:=fun h=>?_)<;>try exact prn)|refine Au ?_|refine Aq ?_|refine Ar ?_|refine A3 ?_|refine Aj Ab J J J J J J J (Ac Z) J ?_|refine Ae Ab J J J J J J J Z (Ac Z) J ?_|refine Ah Ab J J J J J J J J J J J J J (by simp[Ad];omega) ?_|refine Af Ab J J J J J J J J J J J J J J (by simp[Ad];omega) ?_|refine As J J J J ?_|refine A4 ?_|(refine A5 J J J J J (ht:=fun h=>?_) (hf:=fun h=>?_)<;>try exact prn)|(refine A6 J J J J J (ht:=fun h=>?_) (hf:=fun h=>?_)<;>try exact prn)|refine Ai J J J J J ?_|refine An J J J J J J J (Ac Z) J ?_)
  exact AC J (Sub.of_eq (by rw[LN (JC O hany)]))
theorem Md (fnum:Nat) (cap:List T) (p:Row→Bool) (l:List Row) (hl:l.length≤1000000000) (hf: ∀r,Ct Tryz.prog fnum (.agg (AA (AK r))::AA cap) [] (.t (.bool (p r))) []) (hfr:Dz (AA cap)=true):
  Ct Tryz.prog 62 [.t (.slice .any 5 (l.map AK)),.t (.func (.func fnum) [] cap)] [] (.t (.bool (l.any p))) []:=by
 refine ct0 Ab Tryz.func62 J false J J ?_
 repeat'(first|refine Ak Ab J J J J J ?_|refine Ap Ab J J J ?_|refine A0 ?_|refine A9 ?_|refine Aw Ab J J ?_|(refine A1 J J J J J (ht:=fun h=>?_) (hf:=fun h=>?_)<;>try exact prn)|(refine A2 J J J J J (ht:=fun h=>?_) (hf:=fun h=>?_)<;>try exact prn)|refine Ag J J J J J ?_|(refine Al J (ht:=fun h=>?_) (hf:=fun h=>?_)<;>try exact prn)|refine Au ?_|refine Aq ?_|refine Ar ?_|refine A3 ?_|refine Aj Ab J J J J J J J (Ac Z) J ?_|refine Ae Ab J J J J J J J Z (Ac Z) J ?_|refine Ah Ab J J J J J J J J J J J J J (by simp[Ad];omega) ?_|refine Af Ab J J J J J J J J J J J J J J (by simp[Ad];omega) ?_|refine As J J J J ?_|refine A4 ?_|(refine A5 J J J J J (ht:=fun h=>?_) (hf:=fun h=>?_)<;>try exact prn)|(refine A6 J J J J J (ht:=fun h=>?_) (hf:=fun h=>?_)<;>try exact prn)|refine Ai J J J J J ?_|refine An J J J J J J J (Ac Z) J ?_|refine A7 Ab J J J J J J J (OY fnum cap p l hl hf hfr) J J ?_)
 refine AC J (BN ?_)
 rw[←Bool.eq_iff_iff.2 ⟨fun h=>(KQ p l).1 (of_decide_eq_true h),fun h=>decide_eq_true ((KQ p l).2 h)⟩]
end Go.Proofs.YthjoclecnacdiaaGreatDoor
