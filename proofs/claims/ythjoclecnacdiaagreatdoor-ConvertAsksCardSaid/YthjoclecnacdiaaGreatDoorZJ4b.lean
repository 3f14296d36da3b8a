/- Contracts and laws, joined: Pk, Pi, Pj. No condition beside those that each theorem names. -/
import Derived.Test.YthjoclecnacdiaaGreatDoorZPf
set_option linter.unusedVariables false
set_option linter.unusedSimpArgs false
namespace Go.Proofs.YthjoclecnacdiaaGreatDoor
open Go.Am
attribute [local irreducible] Decidable.decide
set_option maxRecDepth 100000
set_option maxHeartbeats 1000000
theorem R0 {x:T} (b:Bs) (n:Int) (hx:Sub (.t x) (.t (.slice .any 1 (b.map Bo)))) (h0:0≤n) (hn:n≤1099511627776) (hb:b.length≤1000000000):
  Ct Tryz.prog 214 [.t (.int .i64 n),.ref 1 0,.ref 3 0] [(1,.cells [.t (.int .i64 0)]),(3,.cells [.t x])] (.tuple []) [(1,.cells [.t (.int .i64 0)]),(3,.cells [.t (.slice .any 1 ((b++BR n.toNat).map Bo))])]:=by
 refine ct1 Ab Tryz.func214 J J ?_
 repeat'(first|refine Ak Ab J J J J J ?_|refine Ap Ab J J J ?_|refine A0 ?_|refine A9 ?_|refine Aw Ab J J ?_|(refine A1 J J J J J (ht:=fun h=>?_) (hf:=fun h=>?_)<;>try exact prn)|(refine A2 J J J J J (ht:=fun h=>?_) (hf:=fun h=>?_)<;>try exact prn)|refine Ag J J J J J ?_|(refine Al J (ht:=fun h=>?_) (hf:=fun h=>?_)<;>try exact prn)|refine Au ?_|refine Aq ?_|refine Ar ?_|refine A3 ?_|refine Aj Ab J J J J J J J (Ac Z) J ?_|refine Ae Ab J J J J J J J Z (Ac Z) J ?_|refine Ah Ab J J J J J J J J J J J J J (by simp[Ad];omega) ?_|refine Af Ab J J J J J J J J J J J J J J (by simp[Ad];omega) ?_|refine As J J J J ?_|refine A4 ?_|(refine A5 J J J J J (ht:=fun h=>?_) (hf:=fun h=>?_)<;>try exact prn)|(refine A6 J J J J J (ht:=fun h=>?_) (hf:=fun h=>?_)<;>try exact prn)|refine Ai J J J J J ?_|refine An J J J J J J J (Ac Z) J ?_|refine H1 Ab J J J J (CW b n h0 hn hb) J J J ⟨hx,Sub.refl _,trivial⟩ ?_)
 exact Bx [] J J J (Sub.refl _)
theorem Ol (b s:Bs) (hs:s.length≤1024) (hb:b.length≤1000000000):
  Ct Tryz.prog 215 [.t (.str s),.ref 1 0,.ref 3 0] [(1,.cells [.t (.int .i64 0)]),(3,.cells [.t (.slice .any 1 (b.map Bo))])] (.tuple []) [(1,.cells [.t (.int .i64 0)]),(3,.cells [.t (.slice .any 1 ((b++G6 s).map Bo))])]:=by
 refine ct1 Ab Tryz.func215 J J ?_
 repeat'(first|refine Ak Ab J J J J J ?_|refine Ap Ab J J J ?_|refine A0 ?_|refine A9 ?_|refine Aw Ab J J ?_|(refine A1 J J J J J (ht:=fun h=>?_) (hf:=fun h=>?_)<;>try exact prn)|(refine A2 J J J J J (ht:=fun h=>?_) (hf:=fun h=>?_)<;>try exact prn)|refine Ag J J J J J ?_|(refine Al J (ht:=fun h=>?_) (hf:=fun h=>?_)<;>try exact prn)|refine Au ?_|refine Aq ?_|refine Ar ?_|refine A3 ?_|refine Aj Ab J J J J J J J (Ac Z) J ?_|refine Ae Ab J J J J J J J Z (Ac Z) J ?_|refine Ah Ab J J J J J J J J J J J J J (by simp[Ad];omega) ?_|refine Af Ab J J J J J J J J J J J J J J (by simp[Ad];omega) ?_|refine As J J J J ?_|refine A4 ?_|(refine A5 J J J J J (ht:=fun h=>?_) (hf:=fun h=>?_)<;>try exact prn)|(refine A6 J J J J J (ht:=fun h=>?_) (hf:=fun h=>?_)<;>try exact prn)|refine Ai J J J J J ?_|refine An J J J J J J J (Ac Z) J ?_|refine A7 Ab J J J J J J J (Pv b s hs hb) J J ?_)
 exact Bx [] J J J (Sub.refl _)
theorem Tp (b:Batch) (hb:B3 b=true):Ct Tryz.prog 189 [.agg (AA (Bj b))] [] (.tuple [.t (.slice .any 1 ((FG b).map Bo)),.t .nilIface]) []:=by
 have hm:=hb
 simp only[B3,Bool.and_eq_true,decide_eq_true_eq]at hm
 obtain⟨hbd,hall⟩:=hm
 have hbd':=hbd;unfold CX at hbd'
 have hlm:(b.recs.map Bk).length=b.recs.length:=List.length_map ..
 have l1:=BA (n:=b.pid.toNat) O
 have l2:=BA (n:=b.epoch.toNat) O
 have l3:=BA (n:=b.seq.toNat) O
 have l4:=BA (n:=b.recs.length) O
 refine ct0 Ab Tryz.func189 J false J J ?_
 have cm:Ct Tryz.prog 128 [.agg (AA (Bj b))] [] (.t (.bool true)) []:=hb▸NL b O
 repeat'(first|refine Ak Ab J J J J J ?_|refine Ap Ab J J J ?_|refine A0 ?_|refine A9 ?_|refine Aw Ab J J ?_|(refine A1 J J J J J (ht:=fun h=>?_) (hf:=fun h=>?_)<;>try exact prn)|(refine A2 J J J J J (ht:=fun h=>?_) (hf:=fun h=>?_)<;>try exact prn)|refine Ag J J J J J ?_|(refine Al J (ht:=fun h=>?_) (hf:=fun h=>?_)<;>try exact prn)|refine Au ?_|refine Aq ?_|refine Ar ?_|refine A3 ?_|refine Aj Ab J J J J J J J (Ac Z) J ?_|refine Ae Ab J J J J J J J Z (Ac Z) J ?_|refine Ah Ab J J J J J J J J J J J J J (by simp[Ad];omega) ?_|refine Af Ab J J J J J J J J J J J J J J (by simp[Ad];omega) ?_|refine AD (id:=19) (m:=5) Ab U J J J J ?_|refine As J J J J ?_|refine A4 ?_|(refine A5 J J J J J (ht:=fun h=>?_) (hf:=fun h=>?_)<;>try exact prn)|(refine A6 J J J J J (ht:=fun h=>?_) (hf:=fun h=>?_)<;>try exact prn)|refine Ai J J J J J ?_|refine An J J J J J J J (Ac Z) J ?_|refine A7 Ab J J J J J J J (cm) J J ?_|refine AR Ab [(10,1),(8,3)] [(1,10),(3,8)] J J J J J (R0 [] b.pid SG O O Y) J J J J J ?_|refine AR Ab [(10,1),(8,3)] [(1,10),(3,8)] J J J J J (R0 _ _ (Sub.refl _) O O (by simp only[List.length_append,List.length_cons,List.length_nil,GD];omega)) J J J J J ?_|refine A7 Ab J J J J J J J (P3 _ _ (by simp;omega)) J J ?_)
 refine BC (ι:=Nat) (fun i=>i≤b.recs.length) (fun i=>[(4,.ref 8 0),(5,.ref 10 0),(7,.func (.func 215) [] [.ref 10 0,.ref 8 0]),(40,.t (.slice .any 2 (b.recs.map Bk))),(41,.t (.int .i64 b.recs.length)),(42,.t (.int .i64 i))]) (fun i=>[(10,.cells [.t (.int .i64 0)]),(8,.cells [.t (.slice .any 1 ((BR b.pid.toNat++BR b.epoch.toNat++BR b.seq.toNat++GD b.txn++BR b.recs.length++(b.recs.take i).flatMap TN).map Bo))]),(2,.cells (AA (Bj b)))]) (fun i=>b.recs.length-i) 0 Y ?_ ?_
 ·refine Ce [] (Av J J (Av J J (Av J J (Av J J (Av J (by rw[hlm]) (Av J J AJ)))))) ?_
  simp only[hlm,List.take_zero,List.flatMap_nil,List.append_nil]
  rfl
 rintro i hi
 by_cases hlt:i<b.recs.length
 ·have hr:b.recs[i]?=some b.recs[i]:=List.getElem?_eq_getElem hlt
  have hrok:=H8.1 (List.all_eq_true.1 hall b.recs[i] (List.getElem_mem hlt))
  have hl5:=Lv (l:=b.recs.take i) (List.all_eq_true.2 fun x hx=>List.all_eq_true.1 hall x (List.mem_of_mem_take hx))
  rw[List.length_take]at hl5
  generalize b.recs[i]=r at hr hrok
  have hl6:=JL (s:=r.key) O
  repeat'(first|refine Ak Ab J J J J J ?_|refine Ap Ab J J J ?_|refine A0 ?_|refine A9 ?_|refine Aw Ab J J ?_|(refine A1 J J J J J (ht:=fun h=>?_) (hf:=fun h=>?_)<;>try exact prn)|(refine A2 J J J J J (ht:=fun h=>?_) (hf:=fun h=>?_)<;>try exact prn)|refine Ag J J J J J ?_|(refine Al J (ht:=fun h=>?_) (hf:=fun h=>?_)<;>try exact prn)|refine Au ?_|refine Aq ?_|refine Ar ?_|refine A3 ?_|refine Aj Ab J J J J J J J (Ac Z) J ?_|refine Ae Ab J J J J J J J Z (Ac Z) J ?_|refine Ah Ab J J J J J J J J J J J J J (by simp[Ad];omega) ?_|refine Af Ab J J J J J J J J J J J J J J (by simp[Ad];omega) ?_|refine AD (id:=19) (m:=5) Ab U J J J J ?_|refine As J J J J ?_|refine A4 ?_|(refine A5 J J J J J (ht:=fun h=>?_) (hf:=fun h=>?_)<;>try exact prn)|(refine A6 J J J J J (ht:=fun h=>?_) (hf:=fun h=>?_)<;>try exact prn)|refine Ai J J J J J ?_|refine An J J J J J J J (Ac Z) J ?_|refine AR Ab [(10,1),(8,3)] [(1,10),(3,8)] J J J J J (Ol _ r.key O (by simp only[List.length_append,List.length_cons,List.length_nil,GD];omega)) J J J J J ?_|refine AR Ab [(10,1),(8,3)] [(1,10),(3,8)] J J J J J (Ol _ r.value O (by simp only[List.length_append,List.length_cons,List.length_nil,GD];omega)) J J J J J ?_)
  refine BB (i+1) O O [9] (Av J J (Av J J (Av J J (Av J J (Av J J (Av J ?_ AJ)))))) ?_
  ·rw[AW O O];rfl
  ·rw[BK hr];simp only[List.flatMap_append,List.flatMap_cons,List.flatMap_nil,List.append_nil,TN,←List.append_assoc];rfl
 ·repeat'(first|refine Ak Ab J J J J J ?_|refine Ap Ab J J J ?_|refine A0 ?_|refine A9 ?_|refine Aw Ab J J ?_|(refine A1 J J J J J (ht:=fun h=>?_) (hf:=fun h=>?_)<;>try exact prn)|(refine A2 J J J J J (ht:=fun h=>?_) (hf:=fun h=>?_)<;>try exact prn)|refine Ag J J J J J ?_|(refine Al J (ht:=fun h=>?_) (hf:=fun h=>?_)<;>try exact prn)|refine Au ?_|refine Aq ?_|refine Ar ?_|refine A3 ?_|refine Aj Ab J J J J J J J (Ac Z) J ?_|refine Ae Ab J J J J J J J Z (Ac Z) J ?_|refine Ah Ab J J J J J J J J J J J J J (by simp[Ad];omega) ?_|refine Af Ab J J J J J J J J J J J J J J (by simp[Ad];omega) ?_|refine AD (id:=19) (m:=5) Ab U J J J J ?_|refine As J J J J ?_|refine A4 ?_|(refine A5 J J J J J (ht:=fun h=>?_) (hf:=fun h=>?_)<;>try exact prn)|(refine A6 J J J J J (ht:=fun h=>?_) (hf:=fun h=>?_)<;>try exact prn)|refine Ai J J J J J ?_|refine An J J J J J J J (Ac Z) J ?_)
  refine AC J (Sub.of_eq ?_);rw[List.take_of_length_le O];rfl
theorem SB (b:Batch) (hb:B3 b=true):Ct Tryz.prog 146 [.agg (AA (Bj b))] [] (.tuple [.t (.str (FG b)),.t (.int .i64 0)]) []:=by
 refine ct0 Ab Tryz.func146 J false J J ?_
 repeat'(first|refine Ak Ab J J J J J ?_|refine Ap Ab J J J ?_|refine A0 ?_|refine A9 ?_|refine Aw Ab J J ?_|(refine A1 J J J J J (ht:=fun h=>?_) (hf:=fun h=>?_)<;>try exact prn)|(refine A2 J J J J J (ht:=fun h=>?_) (hf:=fun h=>?_)<;>try exact prn)|refine Ag J J J J J ?_|(refine Al J (ht:=fun h=>?_) (hf:=fun h=>?_)<;>try exact prn)|refine Au ?_|refine Aq ?_|refine Ar ?_|refine A3 ?_|refine Aj Ab J J J J J J J (Ac Z) J ?_|refine Ae Ab J J J J J J J Z (Ac Z) J ?_|refine Ah Ab J J J J J J J J J J J J J (by simp[Ad];omega) ?_|refine Af Ab J J J J J J J J J J J J J J (by simp[Ad];omega) ?_|refine As J J J J ?_|refine A4 ?_|(refine A5 J J J J J (ht:=fun h=>?_) (hf:=fun h=>?_)<;>try exact prn)|(refine A6 J J J J J (ht:=fun h=>?_) (hf:=fun h=>?_)<;>try exact prn)|refine Ai J J J J J ?_|refine An J J J J J J J (Ac Z) J ?_|refine A7 Ab J J J J J J J (Tp b hb) J J ?_|refine UQ Ab J J J J J J (N0 _).symm J ?_)
 exact AC J (Sub.refl _)
end Go.Proofs.YthjoclecnacdiaaGreatDoor
