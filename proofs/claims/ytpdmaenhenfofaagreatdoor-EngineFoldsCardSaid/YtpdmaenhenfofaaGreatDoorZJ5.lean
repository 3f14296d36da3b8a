/- Contracts and laws, joined: Kn, Pk, Pl, Pm, Pn, Po. No condition beside those that each theorem names. -/
import Derived.Test.YtpdmaenhenfofaaGreatDoorZJ3
import Derived.Test.YtpdmaenhenfofaaGreatDoorZM5
import Derived.Test.YtpdmaenhenfofaaGreatDoorZJ4
set_option linter.unusedVariables false
set_option linter.unusedSimpArgs false
namespace Go.Proofs.YtpdmaenhenfofaaGreatDoor
open Go.Am
attribute [local irreducible] Decidable.decide
set_option maxRecDepth 100000
set_option maxHeartbeats 1000000
theorem Ae7 (l:List Seen):Ct Tryz.prog 199 [.t (.slice .any 3 (l.map Bv))] [] (.t (.func (.func 210) [] [.ptr [.slice .any 3 (l.map Bv)]])) []:=by
 refine ct0 Ac Tryz.func199 J false J J ?_
 refine Ah ?_
 refine Ai Ac J J ?_
 repeat'(first|refine Ae Ac J J J ?_|refine Ag ?_)
 refine Tr.freezeBox (cs:=[.slice .any 3 (l.map Bv)]) 1 2 J J J J ?_
 repeat'(first|refine Ae Ac J J J ?_|refine Ag ?_|refine Ah ?_|refine Ai Ac J J ?_|refine Ar ?_)
 exact Au J (Sub.of_eq J)
def dn:Nat→Int
 |0=> -1
 |j+1=>j
theorem Ahg (n:Nat):((n:Nat):Int)-1=dn n:=by
 cases n with
 |zero=>rfl
 |succ j=>simp[dn]
theorem I0 {next:Int}: ∀{l:List Seen} {i:Nat},B5 next (l.drop i)=false→B5 next l=false
 |l,0,h=>by simpa using h
 |[],i+1,h=>by simp[B5]at h
 |a::r,i+1,h=>by
  have:=I0 (l:=r) (i:=i) (by simpa using h)
  simp[B5,this]
theorem Ab9 {next:Int} {l:List Seen} {i:Nat} {r:Seen} (hr:l[i]?=some r) (h:B5 next (l.drop (i+1))=true) (hn: ¬Cp r):B5 next l=false:=by
 refine I0 (i:=i) ?_
 rw[BE hr]
 simp[B5,hn]
theorem YP {next:Int} {l:List Seen} {i:Nat} {r:Seen} (hr:l[i]?=some r) (h:B5 next (l.drop (i+1))=true) (hn: ¬(Cp r∧r.seq≤CE next (l.drop (i+1))-r.count)):B5 next l=false:=by
 refine I0 (i:=i) ?_
 rw[BE hr]
 simp only[B5,h,hn,decide_false,Bool.false_and]
theorem E1 (p:Prod) (hp:p.seen.length≤1000000):Ct Tryz.prog 155 [.agg (Aj (Av p))] [] (.t (.bool (C2 p))) []:=by
 refine ct0 Ac Tryz.func155 J false J J ?_
 have hlm:(p.seen.map Bv).length=p.seen.length:=List.length_map ..
 repeat'(first|refine An Ac J J J J J ?_|refine Ae Ac J J J ?_|refine Ag ?_|refine Ah ?_|refine Ai Ac J J ?_|(refine AP J J J J J (ht:=fun h=>?_) (hf:=fun h=>?_)<;>try exact prn)|(refine Af J (ht:=fun h=>?_) (hf:=fun h=>?_)<;>try exact prn)|refine Al ?_|refine Ao ?_|refine Ar ?_|refine Ak Ac J J J J J J J (S3 _) J J ?_|refine Ak Ac J J J J J J J (Gk _ _) J J ?_|refine Ak Ac J J J J J J J (Ae7 p.seen) J J ?_)
 all_goals try(refine Au J (BJ (U1 ?_));unfold BU;omega)
 have hb:BU p:=by unfold BU;omega
 have hb':=hb;unfold BU at hb'
 refine Tr.weak (E:=[(2,.ref 4 0),(3,.ref 6 0),(28,.t (.func (.func 210) [] [.ptr [.slice .any 3 (p.seen.map Bv)]]))]) (S:=[(6,.cells [.t (.int .i64 p.next)]),(4,.cells [.t (.bool false)]),(2,.cells (Aj (Av p)))]) ?_ (AR [] (Ad J J (Ad J J (Ad J J Aq))) J)
 refine Ac0 Ac J Tryz.func210 J J (fun l=>?_)
 generalize hB:Blk.loop l .ready none _ _ _ _ _=B
 repeat'(first|refine Ae Ac J J J ?_|refine Ag ?_|refine Ah ?_|refine Ai Ac J J ?_|refine Al ?_)
 refine AM (ι:=Nat) (fun i=>i≤p.seen.length∧B5 p.next (p.seen.drop i)=true) (fun i=>[(0,.t (.func (.yield l) [] [])),(1,.t (.ptr [.slice .any 3 (p.seen.map Bv)])),(3,.t (.int .i64 (dn i)))]) (fun i=>[(Mh,B),(13,.cells [.t (.int .i64 (CE p.next (p.seen.drop i)))]),(9,.cells [.t (.bool false)]),(5,.cells (Aj (Av p)))]) (fun i=>i) p.seen.length (by simp[B5]) ?_ ?_
 ·refine AR [] (Ad J J (Ad J J (Ad J ?_ Aq))) ?_
  ·rw[hlm,A0 O O,Ahg]
  ·rw[List.drop_of_length_le (Nat.le_refl _)];rfl
 rintro i ⟨hi,hch⟩
 subst hB
 cases i with
 |zero=>
  rw[show dn 0= -1 from rfl]
  repeat'(first|refine Ae Ac J J J ?_|refine Ag ?_|refine Ah ?_|refine Ai Ac J J ?_|(refine Af J (ht:=fun h=>?_) (hf:=fun h=>?_)<;>try exact prn)|refine AB ?_)
  refine⟨.inl J,J,_,_,_,_,J,Z,J,?_⟩
  repeat'(first|refine An Ac J J J J J ?_|refine Ag ?_|refine Ah ?_|refine Ai Ac J J ?_|refine Ar ?_)
  exact Au J (BJ (Rq hb hch))
 |succ i=>
  have hr:p.seen[i]?=some p.seen[i]:=List.getElem?_eq_getElem O
  generalize p.seen[i]=r at hr
  rw[show dn (i+1)=(i:Int)from rfl]
  repeat'(first|refine An Ac J J J J J ?_|refine Ae Ac J J J ?_|refine Ag ?_|refine Ah ?_|refine Ai Ac J J ?_|(refine AP J J J J J (ht:=fun h=>?_) (hf:=fun h=>?_)<;>try exact prn)|(refine Af J (ht:=fun h=>?_) (hf:=fun h=>?_)<;>try exact prn)|refine Al ?_|refine Ao ?_|refine Ar ?_|refine AD Ac J J J J J J J (A2 Aa) J ?_|refine Acy (b:=Mh) J J J J J J J J J J ?_|refine⟨J,_,J,?_⟩|refine⟨_,_,_,_,J,J,_,J,?_⟩)
  all_goals try(refine⟨.inr J,J,_,_,_,_,J,Z,J,?_⟩;exact Au J (BJ (H6 (Ab9 hr hch (by unfold Cp;omega)))))
  all_goals(
   have hbb:=Fb O O hch
   have hw:IntKind.i64.wrap (CE p.next (p.seen.drop (i+1))-r.count)=CE p.next (p.seen.drop (i+1))-r.count:=A0 O O)
  ·refine⟨.inr J,J,_,_,_,_,J,Z,J,?_⟩
   exact Au J (BJ (H6 (YP hr hch (by unfold Cp;omega))))
  ·refine AF i ⟨by omega,?_⟩ O [5] (Ad J J (Ad J J (Ad J ?_ Aq))) ?_
   ·rw[BE hr];simp only[B5,hch,Bool.and_true,decide_eq_true_eq];unfold Cp;omega
   ·rw[A0 O O,Ahg];rfl
   ·rw[BE hr];rfl
end Go.Proofs.YtpdmaenhenfofaaGreatDoor
namespace Go.Proofs.YtpdmaenhenfofaaGreatDoor
open Go.Am
attribute [local irreducible] Decidable.decide
set_option maxRecDepth 100000
set_option maxHeartbeats 1000000
theorem WJ {x:T} (b:Bs) (n:Int) (hx:Sub (.t x) (.t (.slice .any 1 (b.map Bn)))) (h0:0≤n) (hn:n≤1099511627776) (hb:b.length≤1000000000):
  Ct Tryz.prog 219 [.t (.int .i64 n),.ref 1 0,.ref 3 0] [(1,.cells [.t (.int .i64 0)]),(3,.cells [.t x])] (.tuple []) [(1,.cells [.t (.int .i64 0)]),(3,.cells [.t (.slice .any 1 ((b++B6 n.toNat).map Bn))])]:=by
 refine ct1 Ac Tryz.func219 J J ?_
 repeat'(first|refine An Ac J J J J J ?_|refine Ae Ac J J J ?_|refine Ag ?_|refine Ah ?_|refine Ai Ac J J ?_|(refine Af J (ht:=fun h=>?_) (hf:=fun h=>?_)<;>try exact prn)|refine Ck Ac J J J J (OI b n h0 hn hb) J J J ⟨hx,Sub.refl _,trivial⟩ ?_)
 exact DM [] J J J (Sub.refl _)
theorem SJ (b s:Bs) (hs:s.length≤1024) (hb:b.length≤1000000000):
  Ct Tryz.prog 220 [.t (.str s),.ref 1 0,.ref 3 0] [(1,.cells [.t (.int .i64 0)]),(3,.cells [.t (.slice .any 1 (b.map Bn))])] (.tuple []) [(1,.cells [.t (.int .i64 0)]),(3,.cells [.t (.slice .any 1 ((b++Dd s).map Bn))])]:=by
 refine ct1 Ac Tryz.func220 J J ?_
 repeat'(first|refine An Ac J J J J J ?_|refine Ae Ac J J J ?_|refine Ag ?_|refine Ah ?_|refine Ai Ac J J ?_|(refine Af J (ht:=fun h=>?_) (hf:=fun h=>?_)<;>try exact prn)|refine Ak Ac J J J J J J J (UG b s hs hb) J J ?_)
 exact DM [] J J J (Sub.refl _)
theorem Zl (b:Batch) (hb:A1 b=true):Ct Tryz.prog 213 [.agg (Aj (Ap b))] [] (.tuple [.t (.slice .any 1 ((CV b).map Bn)),.t .nilIface]) []:=by
 have hm:=hb
 simp only[A1,Bool.and_eq_true,decide_eq_true_eq]at hm
 obtain⟨hbd,hall⟩:=hm
 have hbd':=hbd;unfold Cm at hbd'
 have hlm:(b.recs.map Bu).length=b.recs.length:=List.length_map ..
 have l1:=Cf (n:=b.pid.toNat) O
 have l2:=Cf (n:=b.epoch.toNat) O
 have l3:=Cf (n:=b.seq.toNat) O
 have l4:=Cf (n:=b.recs.length) O
 refine ct0 Ac Tryz.func213 J false J J ?_
 have cm:Ct Tryz.prog 37 [.agg (Aj (Ap b))] [] (.t (.bool true)) []:=hb▸GV b O
 repeat'(first|refine An Ac J J J J J ?_|refine Ae Ac J J J ?_|refine Ag ?_|refine Ah ?_|refine Ai Ac J J ?_|(refine Af J (ht:=fun h=>?_) (hf:=fun h=>?_)<;>try exact prn)|refine Al ?_|refine Ao ?_|refine Ak Ac J J J J J J J (cm) J J ?_|refine A7 Ac [(10,1),(8,3)] [(1,10),(3,8)] J J J J J (WJ [] b.pid Yj O O Z) J J J J J ?_|refine A7 Ac [(10,1),(8,3)] [(1,10),(3,8)] J J J J J (WJ _ _ (Sub.refl _) O O (by simp only[List.length_append,List.length_cons,List.length_nil,Da];omega)) J J J J J ?_|refine Ak Ac J J J J J J J (ON _ _ (by simp;omega)) J J ?_)
 refine AM (ι:=Nat) (fun i=>i≤b.recs.length) (fun i=>[(4,.ref 8 0),(5,.ref 10 0),(7,.func (.func 220) [] [.ref 10 0,.ref 8 0]),(40,.t (.slice .any 2 (b.recs.map Bu))),(41,.t (.int .i64 b.recs.length)),(42,.t (.int .i64 i))]) (fun i=>[(10,.cells [.t (.int .i64 0)]),(8,.cells [.t (.slice .any 1 ((B6 b.pid.toNat++B6 b.epoch.toNat++B6 b.seq.toNat++Da b.txn++B6 b.recs.length++(b.recs.take i).flatMap Hi).map Bn))]),(2,.cells (Aj (Ap b)))]) (fun i=>b.recs.length-i) 0 Z ?_ ?_
 ·refine AR [] (Ad J J (Ad J J (Ad J J (Ad J J (Ad J (by rw[hlm]) (Ad J J Aq)))))) ?_
  simp only[hlm,List.take_zero,List.flatMap_nil,List.append_nil]
  rfl
 rintro i hi
 by_cases hlt:i<b.recs.length
 ·have hr:b.recs[i]?=some b.recs[i]:=List.getElem?_eq_getElem hlt
  have hrok:=JE.1 (List.all_eq_true.1 hall b.recs[i] (List.getElem_mem hlt))
  have hl5:=Oc (l:=b.recs.take i) (List.all_eq_true.2 fun x hx=>List.all_eq_true.1 hall x (List.mem_of_mem_take hx))
  rw[List.length_take]at hl5
  generalize b.recs[i]=r at hr hrok
  have hl6:=Gs (s:=r.key) O
  repeat'(first|refine An Ac J J J J J ?_|refine Ae Ac J J J ?_|refine Ag ?_|refine Ah ?_|refine Ai Ac J J ?_|(refine Af J (ht:=fun h=>?_) (hf:=fun h=>?_)<;>try exact prn)|refine Al ?_|refine Ao ?_|refine AD Ac J J J J J J J (A2 Aa) J ?_|refine A7 Ac [(10,1),(8,3)] [(1,10),(3,8)] J J J J J (SJ _ r.key O (by simp only[List.length_append,List.length_cons,List.length_nil,Da];omega)) J J J J J ?_|refine A7 Ac [(10,1),(8,3)] [(1,10),(3,8)] J J J J J (SJ _ r.value O (by simp only[List.length_append,List.length_cons,List.length_nil,Da];omega)) J J J J J ?_)
  refine AF (i+1) O O [9] (Ad J J (Ad J J (Ad J J (Ad J J (Ad J J (Ad J ?_ Aq)))))) ?_
  ·rw[A0 O O];rfl
  ·rw[AL hr];simp only[List.flatMap_append,List.flatMap_cons,List.flatMap_nil,List.append_nil,Hi,←List.append_assoc];rfl
 ·repeat'(first|refine Ae Ac J J J ?_|refine Ag ?_|refine Ah ?_|refine Ai Ac J J ?_|(refine Af J (ht:=fun h=>?_) (hf:=fun h=>?_)<;>try exact prn)|refine Ao ?_|refine AB ?_|refine Ar ?_)
  refine Au J (Sub.of_eq ?_);rw[List.take_of_length_le O];rfl
theorem Yb (b:Batch) (hb:A1 b=true):Ct Tryz.prog 202 [.agg (Aj (Ap b))] [] (.tuple [.t (.str (CV b)),.t (.int .i64 0)]) []:=by
 refine ct0 Ac Tryz.func202 J false J J ?_
 repeat'(first|refine Ae Ac J J J ?_|refine Ag ?_|refine Ah ?_|refine Ai Ac J J ?_|(refine Af J (ht:=fun h=>?_) (hf:=fun h=>?_)<;>try exact prn)|refine Ao ?_|refine Ar ?_|refine Ak Ac J J J J J J J (Zl b hb) J J ?_|refine Fz Ac J J J J J J (DJ _).symm J ?_)
 exact Au J (Sub.refl _)
end Go.Proofs.YtpdmaenhenfofaaGreatDoor
namespace Go.Proofs.YtpdmaenhenfofaaGreatDoor
open Go.Am
attribute [local irreducible] Decidable.decide
set_option maxRecDepth 100000
set_option maxHeartbeats 1000000
def Ail (n:Int):List T:=[.int .i64 n]
def wB (b:Bs):St:=[(1,.cells [.t (.slice .any 1 (b.map Bn)),.t (.int .i64 0)])]
theorem Yh {l:List Int} {i:Nat} {n:Int} (h:l[i]?=some n):Cu (l.take (i+1))=Cu (l.take i)++B6 n.toNat:=by
 rw[AL h];simp[Cu]
theorem IY: ∀{l:List Int},(∀n∈l,0≤n∧n≤1099511627776)→(Cu l).length≤6*l.length
 |[],_=>by simp[Cu]
 |a::r,h=>by
  have ih:=IY (l:=r) fun n hn=>h n (by simp[hn])
  have h1:=h a Z
  have h2:=Cf (n:=a.toNat) O
  simp only[Cu,List.flatMap_cons,List.length_append,List.length_cons]at ih⊢;omega
theorem GI (b:Bs) (l:List Int) (hl: ∀n∈l,0≤n∧n≤1099511627776) (hll:l.length≤1000) (hb:b.length≤100000000):
  Ct Tryz.prog 203 [.ref 1 0,.t (.slice .any 1 (l.map Ail))] (wB b) (.tuple []) (wB (b++Cu l)):=by
 refine ct1 Ac Tryz.func203 J J ?_
 have hlm:(l.map Ail).length=l.length:=List.length_map ..
 repeat'(first|refine Ae Ac J J J ?_|refine Ag ?_|refine Ah ?_|refine Ai Ac J J ?_|refine Al ?_)
 refine AM (ι:=Nat) (fun i=>i≤l.length) (fun i=>[(0,.ref 1 0),(6,.t (.slice .any 1 (l.map Ail))),(7,.t (.int .i64 l.length)),(8,.t (.int .i64 i))]) (fun i=>wB (b++Cu (l.take i))) (fun i=>l.length-i) 0 Z ?_ ?_
 ·exact AR [] (Ad J J (Ad J J (Ad J (by rw[hlm]) (Ad J J Aq)))) (by simp[Cu,wB,FZ])
 rintro i hi
 by_cases hlt:i<l.length
 ·have hr:l[i]?=some l[i]:=List.getElem?_eq_getElem hlt
  have hn:=hl l[i] (List.getElem_mem hlt)
  have hl5:=IY (l:=l.take i) (fun n hn=>hl n (List.mem_of_mem_take hn))
  rw[List.length_take]at hl5
  generalize l[i]=r at hr hn
  repeat'(first|refine An Ac J J J J J ?_|refine Ae Ac J J J ?_|refine Ag ?_|refine Ah ?_|refine Ai Ac J J ?_|(refine Af J (ht:=fun h=>?_) (hf:=fun h=>?_)<;>try exact prn)|refine Al ?_|refine Ao ?_|refine AD Ac J J J J J J J (A2 Aa) J ?_|refine Ak Ac J J J J J J J (OI _ r hn.1 hn.2 (by rw[List.length_append];omega)) J J ?_)
  refine AF (i+1) O O [] (Ad J J (Ad J J (Ad J J (Ad J ?_ Aq)))) ?_
  ·rw[A0 O O];rfl
  ·rw[Yh hr,←List.append_assoc];rfl
 ·repeat'(first|refine Ae Ac J J J ?_|refine Ag ?_|refine Ah ?_|refine Ai Ac J J ?_|(refine Af J (ht:=fun h=>?_) (hf:=fun h=>?_)<;>try exact prn)|refine AB ?_)
  refine DM [] J J ?_ (Sub.refl _)
  rw[List.take_of_length_le O];rfl
theorem UO (b s:Bs) (hs:s.length≤1024) (hb:b.length≤1000000000):
  Ct Tryz.prog 205 [.ref 1 0,.t (.str s)] (wB b) (.tuple []) (wB (b++Dd s)):=by
 refine ct1 Ac Tryz.func205 J J ?_
 repeat'(first|refine An Ac J J J J J ?_|refine Ae Ac J J J ?_|refine Ag ?_|refine Ah ?_|refine Ai Ac J J ?_|(refine Af J (ht:=fun h=>?_) (hf:=fun h=>?_)<;>try exact prn)|refine Ak Ac J J J J J J J (UG b s hs hb) J J ?_)
 exact DM [] J J J (Sub.refl _)
end Go.Proofs.YtpdmaenhenfofaaGreatDoor
namespace Go.Proofs.YtpdmaenhenfofaaGreatDoor
open Go.Am
attribute [local irreducible] Decidable.decide
set_option maxRecDepth 100000
set_option maxHeartbeats 1000000
def wF (b:Bs):St:=[(1,.cells [.t (.slice .full 1 (b.map Bn)),.t (.int .i64 0)])]
theorem KO {b:Bs}:Zb (wF b) (wB b):=by
 exact⟨⟨J,Bp,Sub.refl _,trivial⟩,trivial⟩
theorem SN (b:Bs) (x:Entry) (hm:A1 x.b=true) (hb:b.length≤1000000):Ct Tryz.prog 167 [.ref 1 0,.agg (Aj (A4 x))] (wF b) (.tuple []) (wB (b++CV x.b)):=by
 refine ct1 Ac Tryz.func167 J J ?_
 have hl:=I5 hm
 repeat'(first|refine An Ac J J J J J ?_|refine Ae Ac J J J ?_|refine Ag ?_|refine Ah ?_|refine Ai Ac J J ?_|(refine Af J (ht:=fun h=>?_) (hf:=fun h=>?_)<;>try exact prn)|refine Ao ?_|refine Ak Ac J J J J J J J (Yb x.b hm) J J ?_|refine RN Ac J J J J J J J J J J J J (by simp[Fu];omega) ?_)
 refine DM [3] J J ?_ (Sub.refl _)
 rw[DJ,←List.map_append];rfl
theorem Zm (b:Bs) (x:Entry) (h:0≤x.b.pid∧x.b.pid≤1099511627776∧0≤x.b.epoch∧x.b.epoch≤1099511627776) (hb:b.length≤1000000):Ct Tryz.prog 168 [.ref 1 0,.agg (Aj (A4 x))] (wB b) (.tuple []) (wB (b++Cu [x.b.pid,x.b.epoch]++Da x.yes)):=by
 refine ct1 Ac Tryz.func168 J J ?_
 have hl:=IY (l:=[x.b.pid,x.b.epoch]) (by simp;omega)
 simp only[List.length_cons,List.length_nil]at hl
 have c1:=GI b [x.b.pid,x.b.epoch] (by simp;omega) Z O
 repeat'(first|refine An Ac J J J J J ?_|refine Ae Ac J J J ?_|refine Ag ?_|refine Ah ?_|refine Ai Ac J J ?_|refine A9 (id:=2) (m:=8) Ac Y J J J J ?_|refine AA J J J J ?_|refine A7 Ac [(1,1)] [(1,1)] J J J J J (c1.args ⟨Sub.refl _,Bp,trivial⟩) J J J J J ?_|refine AO J J J J J (ON (b++Cu [x.b.pid,x.b.epoch]) x.yes (by rw[List.length_append];omega)) J J ?_)
 exact DM [3] J J J (Sub.refl _)
theorem Acx (b:Bs) (x:Entry) (h:0≤x.offset∧x.offset≤1099511627776) (hb:b.length≤1000000):Ct Tryz.prog 169 [.ref 1 0,.agg (Aj (A4 x))] (wB b) (.tuple []) (wB (b++Cu [x.offset])):=by
 refine ct1 Ac Tryz.func169 J J ?_
 have c1:=GI b [x.offset] (by simp;omega) Z O
 repeat'(first|refine An Ac J J J J J ?_|refine Ae Ac J J J ?_|refine Ag ?_|refine Ah ?_|refine Ai Ac J J ?_|refine A7 Ac [(1,1)] [(1,1)] J J J J J (c1.args ⟨Sub.refl _,Bp,trivial⟩) J J J J J ?_)
 exact DM [3] J J J (Sub.refl _)
theorem Zo (b:Bs) (x:Entry) (h:0≤x.b.pid∧x.b.pid≤1099511627776∧0≤x.b.epoch∧x.b.epoch≤1099511627776∧0≤x.next∧x.next≤1099511627776) (hb:b.length≤1000000):Ct Tryz.prog 171 [.ref 1 0,.agg (Aj (A4 x))] (wB b) (.tuple []) (wB (b++Cu [x.b.pid,x.b.epoch,x.next])):=by
 refine ct1 Ac Tryz.func171 J J ?_
 have c1:=GI b [x.b.pid,x.b.epoch,x.next] (by simp;omega) Z O
 repeat'(first|refine An Ac J J J J J ?_|refine Ae Ac J J J ?_|refine Ag ?_|refine Ah ?_|refine Ai Ac J J ?_|refine A7 Ac [(1,1)] [(1,1)] J J J J J (c1.args ⟨Sub.refl _,Bp,trivial⟩) J J J J J ?_)
 exact DM [3] J J J (Sub.refl _)
theorem Acu (b:Bs) (x:Entry) (h:0≤x.row.pid∧x.row.pid≤1099511627776∧0≤x.row.seq∧x.row.seq≤1099511627776) (hk:x.row.key.length≤16) (hv:x.row.value.length≤16) (hb:b.length≤1000000):
  Ct Tryz.prog 172 [.ref 1 0,.agg (Aj (A4 x))] (wB b) (.tuple []) (wB (b++Cu [x.row.pid,x.row.seq]++Dd x.row.key++Dd x.row.value)):=by
 refine ct1 Ac Tryz.func172 J J ?_
 have hl:=IY (l:=[x.row.pid,x.row.seq]) (by simp;omega)
 simp only[List.length_cons,List.length_nil]at hl
 have hl2:=Gs (s:=x.row.key) O
 have c1:=GI b [x.row.pid,x.row.seq] (by simp;omega) Z O
 repeat'(first|refine An Ac J J J J J ?_|refine Ae Ac J J J ?_|refine Ag ?_|refine Ah ?_|refine Ai Ac J J ?_|refine A7 Ac [(1,1)] [(1,1)] J J J J J (c1.args ⟨Sub.refl _,Bp,trivial⟩) J J J J J ?_|refine A7 Ac [(1,1)] [(1,1)] J J J J J (UO (b++Cu [x.row.pid,x.row.seq]) x.row.key O (by rw[List.length_append];omega)) J J J J J ?_|refine A7 Ac [(1,1)] [(1,1)] J J J J J (UO (b++Cu [x.row.pid,x.row.seq]++Dd x.row.key) x.row.value O (by rw[List.length_append,List.length_append];omega)) J J J J J ?_)
 exact DM [3] J J J (Sub.refl _)
theorem Zp (b:Bs) (x:Entry) (hm:A1 x.b=true) (h:0≤x.next∧x.next≤1099511627776) (hb:b.length≤1000000):Ct Tryz.prog 170 [.ref 1 0,.agg (Aj (A4 x))] (wF b) (.tuple []) (wB (b++CV x.b++Da x.yes++(if x.yes then Cu [x.next]else[]))):=by
 refine ct1 Ac Tryz.func170 J J ?_
 have hl:=I5 hm
 have c1:=GI (b++CV x.b++Da x.yes) [x.next] (by simp;omega) Z (by simp only[List.length_append,Da,List.length_cons,List.length_nil];omega)
 repeat'(first|refine An Ac J J J J J ?_|refine Ae Ac J J J ?_|refine Ag ?_|refine Ah ?_|refine Ai Ac J J ?_|(refine Af J (ht:=fun h=>?_) (hf:=fun h=>?_)<;>try exact prn)|refine Ao ?_|refine A9 (id:=2) (m:=8) Ac Y J J J J ?_|refine AA J J J J ?_|refine A7 Ac [(1,1)] [(1,1)] J J J J J (SN b x hm hb) J J J J J ?_|refine A7 Ac [(1,1)] [(1,1)] J J J J J (c1.args ⟨Sub.refl _,Bp,trivial⟩) J J J J J ?_|refine AO J J J J J (ON (b++CV x.b) x.yes (by rw[List.length_append];omega)) J J ?_)
 ·rw[if_pos Aa];exact DM [3] J J J (Sub.refl _)
 ·rw[if_neg Aa,List.append_nil];exact DM [3] J J J (Sub.refl _)
theorem X5 (b:Bs) (x:Entry) (hk:C2 x.prod=true) (hb:b.length≤1000000):Ct Tryz.prog 173 [.ref 1 0,.agg (Aj (A4 x))] (wB b) (.tuple []) (wB (b++Cu [x.prod.pid,x.prod.epoch,x.prod.next,x.prod.seen.length]++x.prod.seen.flatMap Lg)):=by
 refine ct1 Ac Tryz.func173 J J ?_
 simp only[C2,Bool.and_eq_true,decide_eq_true_eq]at hk
 obtain⟨hbd,hch⟩:=hk
 unfold BU at hbd
 have hsn:=KE O O hch
 have hlm:(x.prod.seen.map Bv).length=x.prod.seen.length:=List.length_map ..
 have c1:=GI b [x.prod.pid,x.prod.epoch,x.prod.next,x.prod.seen.length] (by simp;omega) Z O
 rw[←hlm]at c1
 repeat'(first|refine An Ac J J J J J ?_|refine Ae Ac J J J ?_|refine Ag ?_|refine Ah ?_|refine Ai Ac J J ?_|refine Al ?_|refine A7 Ac [(1,1)] [(1,1)] J J J J J (c1.args ⟨Sub.refl _,Bp,trivial⟩) J J J J J ?_)
 refine AM (ι:=Nat) (fun i=>i≤x.prod.seen.length) (fun i=>[(0,.ref 1 0),(24,.t (.slice .any 3 (x.prod.seen.map Bv))),(25,.t (.int .i64 x.prod.seen.length)),(26,.t (.int .i64 i))]) (fun i=>wB (b++Cu [x.prod.pid,x.prod.epoch,x.prod.next,x.prod.seen.length]++(x.prod.seen.take i).flatMap Lg)) (fun i=>x.prod.seen.length-i) 0 Z ?_ ?_
 ·refine AR [3] (Ad J J (Ad J J (Ad J (by rw[hlm];rfl) (Ad J J Aq)))) ?_
  simp only[hlm,List.take_zero,List.flatMap_nil,List.append_nil];rfl
 rintro i hi
 by_cases hlt:i<x.prod.seen.length
 ·have hr:x.prod.seen[i]?=some x.prod.seen[i]:=List.getElem?_eq_getElem hlt
  have hn:=hsn x.prod.seen[i] (List.getElem_mem hlt)
  have hl5:=Mq (l:=x.prod.seen.take i) (fun s hs=>hsn s (List.mem_of_mem_take hs))
  rw[List.length_take]at hl5
  have hl:=IY (l:=[x.prod.pid,x.prod.epoch,x.prod.next,(x.prod.seen.length:Int)]) (by simp;omega)
  simp only[List.length_cons,List.length_nil]at hl
  generalize x.prod.seen[i]=r at hr hn
  have ho:=hn.1;unfold Cp at ho
  have hw:IntKind.i64.wrap (r.base+1)=r.base+1:=A0 O O
  have c2:=GI (b++Cu [x.prod.pid,x.prod.epoch,x.prod.next,x.prod.seen.length]++(x.prod.seen.take i).flatMap Lg) [r.seq,r.count,r.base+1] (by simp;omega) Z (by simp only[List.length_append];omega)
  rw[←hw]at c2
  repeat'(first|refine An Ac J J J J J ?_|refine Ae Ac J J J ?_|refine Ag ?_|refine Ah ?_|refine Ai Ac J J ?_|(refine Af J (ht:=fun h=>?_) (hf:=fun h=>?_)<;>try exact prn)|refine Al ?_|refine Ao ?_|refine AD Ac J J J J J J J (A2 Aa) J ?_|refine A7 Ac [(1,1)] [(1,1)] J J J J J (c2.args ⟨Sub.refl _,Bp,trivial⟩) J J J J J ?_)
  refine AF (i+1) O O [5] (Ad J J (Ad J J (Ad J J (Ad J ?_ Aq)))) ?_
  ·rw[A0 O O];rfl
  ·rw[AL hr,hw];simp only[List.flatMap_append,List.flatMap_cons,List.flatMap_nil,List.append_nil,Lg,←List.append_assoc];rfl
 ·repeat'(first|refine Ae Ac J J J ?_|refine Ag ?_|refine Ah ?_|refine Ai Ac J J ?_|(refine Af J (ht:=fun h=>?_) (hf:=fun h=>?_)<;>try exact prn)|refine AB ?_)
  refine DM [] J J ?_ (Sub.refl _)
  rw[List.take_of_length_le O];rfl
end Go.Proofs.YtpdmaenhenfofaaGreatDoor
namespace Go.Proofs.YtpdmaenhenfofaaGreatDoor
open Go.Am
attribute [local irreducible] Decidable.decide
set_option maxRecDepth 100000
set_option maxHeartbeats 1000000
theorem Zk:Ct Tryz.prog 110 [.t (.int .i8 0)] [] (.t (.func (.func 167) [] [])) []:=by
 refine ct0 Ac Tryz.func110 J false J J ?_
 repeat'(first|refine An Ac J J J J J ?_|refine Ae Ac J J J ?_|refine Ag ?_|refine Ah ?_|refine Ai Ac J J ?_|refine Ar ?_|refine G0 Ac J J J J J J J J ?_)
 exact Au J (Sub.of_eq J)
theorem Aeo (x:Entry) (hk:x.kind=0) (hm:B9 x=true) (ha:x.b.recs.length≤1000000) (hp:x.prod.seen.length≤1000000):Ct Tryz.prog 59 [.agg (Aj (A4 x))] [] (.tuple [.t (.str (AH x)),.t (.int .i64 0)]) []:=by
 have hma:=(FC hm).2
 simp only[hk,if_true,if_false,Int.reduceEq,true_and]at hma
 skip
 have eB:AH x=[0]++(CV x.b):=by simp[AH,hk,Cu]
 rw[eB]
 have cm:Ct Tryz.prog 109 [.agg (Aj (A4 x))] [] (.t (.bool true)) []:=hm▸Ha E1 x ha hp
 have cw:Ct Tryz.prog 110 [.t (.int .i8 x.kind)] [] (.t (.func (.func 167) [] [])) []:=by rw[hk];exact Zk
 have e1:T.int .u8 ((UInt8.toNat 0:Nat):Int)=T.int .u8 (IntKind.u8.wrap x.kind):=by rw[hk];rfl
 have cd:=SN [0] x hma Z
 skip
 simp only[wF,List.map,Bn,e1]at cd
 refine ct0 Ac Tryz.func59 J false J J ?_
 repeat'(first|refine An Ac J J J J J ?_|refine Ae Ac J J J ?_|refine Ag ?_|refine Ah ?_|refine Ai Ac J J ?_|(refine Af J (ht:=fun h=>?_) (hf:=fun h=>?_)<;>try exact prn)|refine Ao ?_|refine Ar ?_|refine A9 (id:=4) (m:=5) Ac Y J J J J ?_|refine AA J J J J ?_|refine CY ?_|refine Ak Ac J J J J J J J (cm) J J ?_|refine AO J J J J J (cw) J J ?_|refine A7 Ac [(26,1)] [(1,26)] J J J J J cd J J J J J ?_|refine Fz Ac J J J J J J (DJ _).symm J ?_)
 exact Au J (Sub.of_eq (by simp only[List.append_assoc]))
theorem Zj:Ct Tryz.prog 110 [.t (.int .i8 1)] [] (.t (.func (.func 168) [] [])) []:=by
 refine ct0 Ac Tryz.func110 J false J J ?_
 repeat'(first|refine An Ac J J J J J ?_|refine Ae Ac J J J ?_|refine Ag ?_|refine Ah ?_|refine Ai Ac J J ?_|refine Ar ?_|refine G0 Ac J J J J J J J J ?_)
 exact Au J (Sub.of_eq J)
theorem Aen (x:Entry) (hk:x.kind=1) (hm:B9 x=true) (ha:x.b.recs.length≤1000000) (hp:x.prod.seen.length≤1000000):Ct Tryz.prog 59 [.agg (Aj (A4 x))] [] (.tuple [.t (.str (AH x)),.t (.int .i64 0)]) []:=by
 have hma:=(FC hm).2
 simp only[hk,if_true,if_false,Int.reduceEq,true_and]at hma
 skip
 have eB:AH x=[1]++(Cu [x.b.pid,x.b.epoch]++Da x.yes):=by simp[AH,hk,Cu]
 rw[eB]
 have cm:Ct Tryz.prog 109 [.agg (Aj (A4 x))] [] (.t (.bool true)) []:=hm▸Ha E1 x ha hp
 have cw:Ct Tryz.prog 110 [.t (.int .i8 x.kind)] [] (.t (.func (.func 168) [] [])) []:=by rw[hk];exact Zj
 have e1:T.int .u8 ((UInt8.toNat 1:Nat):Int)=T.int .u8 (IntKind.u8.wrap x.kind):=by rw[hk];rfl
 have cd:=Zm [1] x O Z
 replace cd:=cd.weak (Fw.refl _) KO
 simp only[wF,List.map,Bn,e1]at cd
 refine ct0 Ac Tryz.func59 J false J J ?_
 repeat'(first|refine An Ac J J J J J ?_|refine Ae Ac J J J ?_|refine Ag ?_|refine Ah ?_|refine Ai Ac J J ?_|(refine Af J (ht:=fun h=>?_) (hf:=fun h=>?_)<;>try exact prn)|refine Ao ?_|refine Ar ?_|refine A9 (id:=4) (m:=5) Ac Y J J J J ?_|refine AA J J J J ?_|refine CY ?_|refine Ak Ac J J J J J J J (cm) J J ?_|refine AO J J J J J (cw) J J ?_|refine A7 Ac [(26,1)] [(1,26)] J J J J J cd J J J J J ?_|refine Fz Ac J J J J J J (DJ _).symm J ?_)
 exact Au J (Sub.of_eq (by simp only[List.append_assoc]))
theorem Zi:Ct Tryz.prog 110 [.t (.int .i8 2)] [] (.t (.func (.func 169) [] [])) []:=by
 refine ct0 Ac Tryz.func110 J false J J ?_
 repeat'(first|refine An Ac J J J J J ?_|refine Ae Ac J J J ?_|refine Ag ?_|refine Ah ?_|refine Ai Ac J J ?_|refine Ar ?_|refine G0 Ac J J J J J J J J ?_)
 exact Au J (Sub.of_eq J)
theorem Aem (x:Entry) (hk:x.kind=2) (hm:B9 x=true) (ha:x.b.recs.length≤1000000) (hp:x.prod.seen.length≤1000000):Ct Tryz.prog 59 [.agg (Aj (A4 x))] [] (.tuple [.t (.str (AH x)),.t (.int .i64 0)]) []:=by
 have hma:=(FC hm).2
 simp only[hk,if_true,if_false,Int.reduceEq,true_and]at hma
 skip
 have eB:AH x=[2]++(Cu [x.offset]):=by simp[AH,hk,Cu]
 rw[eB]
 have cm:Ct Tryz.prog 109 [.agg (Aj (A4 x))] [] (.t (.bool true)) []:=hm▸Ha E1 x ha hp
 have cw:Ct Tryz.prog 110 [.t (.int .i8 x.kind)] [] (.t (.func (.func 169) [] [])) []:=by rw[hk];exact Zi
 have e1:T.int .u8 ((UInt8.toNat 2:Nat):Int)=T.int .u8 (IntKind.u8.wrap x.kind):=by rw[hk];rfl
 have cd:=Acx [2] x O Z
 replace cd:=cd.weak (Fw.refl _) KO
 simp only[wF,List.map,Bn,e1]at cd
 refine ct0 Ac Tryz.func59 J false J J ?_
 repeat'(first|refine An Ac J J J J J ?_|refine Ae Ac J J J ?_|refine Ag ?_|refine Ah ?_|refine Ai Ac J J ?_|(refine Af J (ht:=fun h=>?_) (hf:=fun h=>?_)<;>try exact prn)|refine Ao ?_|refine Ar ?_|refine A9 (id:=4) (m:=5) Ac Y J J J J ?_|refine AA J J J J ?_|refine CY ?_|refine Ak Ac J J J J J J J (cm) J J ?_|refine AO J J J J J (cw) J J ?_|refine A7 Ac [(26,1)] [(1,26)] J J J J J cd J J J J J ?_|refine Fz Ac J J J J J J (DJ _).symm J ?_)
 exact Au J (Sub.of_eq (by simp only[List.append_assoc]))
theorem Zh:Ct Tryz.prog 110 [.t (.int .i8 3)] [] (.t (.func (.func 170) [] [])) []:=by
 refine ct0 Ac Tryz.func110 J false J J ?_
 repeat'(first|refine An Ac J J J J J ?_|refine Ae Ac J J J ?_|refine Ag ?_|refine Ah ?_|refine Ai Ac J J ?_|refine Ar ?_|refine G0 Ac J J J J J J J J ?_)
 exact Au J (Sub.of_eq J)
theorem Ael (x:Entry) (hk:x.kind=3) (hm:B9 x=true) (ha:x.b.recs.length≤1000000) (hp:x.prod.seen.length≤1000000):Ct Tryz.prog 59 [.agg (Aj (A4 x))] [] (.tuple [.t (.str (AH x)),.t (.int .i64 0)]) []:=by
 have hma:=(FC hm).2
 simp only[hk,if_true,if_false,Int.reduceEq,true_and]at hma
 skip
 have eB:AH x=[3]++(CV x.b++Da x.yes++(if x.yes then Cu [x.next]else[])):=by simp[AH,hk,Cu]
 rw[eB]
 have cm:Ct Tryz.prog 109 [.agg (Aj (A4 x))] [] (.t (.bool true)) []:=hm▸Ha E1 x ha hp
 have cw:Ct Tryz.prog 110 [.t (.int .i8 x.kind)] [] (.t (.func (.func 170) [] [])) []:=by rw[hk];exact Zh
 have e1:T.int .u8 ((UInt8.toNat 3:Nat):Int)=T.int .u8 (IntKind.u8.wrap x.kind):=by rw[hk];rfl
 have cd:=Zp [3] x hma.1 O Z
 skip
 simp only[wF,List.map,Bn,e1]at cd
 refine ct0 Ac Tryz.func59 J false J J ?_
 repeat'(first|refine An Ac J J J J J ?_|refine Ae Ac J J J ?_|refine Ag ?_|refine Ah ?_|refine Ai Ac J J ?_|(refine Af J (ht:=fun h=>?_) (hf:=fun h=>?_)<;>try exact prn)|refine Ao ?_|refine Ar ?_|refine A9 (id:=4) (m:=5) Ac Y J J J J ?_|refine AA J J J J ?_|refine CY ?_|refine Ak Ac J J J J J J J (cm) J J ?_|refine AO J J J J J (cw) J J ?_|refine A7 Ac [(26,1)] [(1,26)] J J J J J cd J J J J J ?_|refine Fz Ac J J J J J J (DJ _).symm J ?_)
 exact Au J (Sub.of_eq (by simp only[List.append_assoc]))
theorem Zg:Ct Tryz.prog 110 [.t (.int .i8 4)] [] (.t (.func (.func 171) [] [])) []:=by
 refine ct0 Ac Tryz.func110 J false J J ?_
 repeat'(first|refine An Ac J J J J J ?_|refine Ae Ac J J J ?_|refine Ag ?_|refine Ah ?_|refine Ai Ac J J ?_|refine Ar ?_|refine G0 Ac J J J J J J J J ?_)
 exact Au J (Sub.of_eq J)
theorem Aek (x:Entry) (hk:x.kind=4) (hm:B9 x=true) (ha:x.b.recs.length≤1000000) (hp:x.prod.seen.length≤1000000):Ct Tryz.prog 59 [.agg (Aj (A4 x))] [] (.tuple [.t (.str (AH x)),.t (.int .i64 0)]) []:=by
 have hma:=(FC hm).2
 simp only[hk,if_true,if_false,Int.reduceEq,true_and]at hma
 skip
 have eB:AH x=[4]++(Cu [x.b.pid,x.b.epoch,x.next]):=by simp[AH,hk,Cu]
 rw[eB]
 have cm:Ct Tryz.prog 109 [.agg (Aj (A4 x))] [] (.t (.bool true)) []:=hm▸Ha E1 x ha hp
 have cw:Ct Tryz.prog 110 [.t (.int .i8 x.kind)] [] (.t (.func (.func 171) [] [])) []:=by rw[hk];exact Zg
 have e1:T.int .u8 ((UInt8.toNat 4:Nat):Int)=T.int .u8 (IntKind.u8.wrap x.kind):=by rw[hk];rfl
 have cd:=Zo [4] x O Z
 replace cd:=cd.weak (Fw.refl _) KO
 simp only[wF,List.map,Bn,e1]at cd
 refine ct0 Ac Tryz.func59 J false J J ?_
 repeat'(first|refine An Ac J J J J J ?_|refine Ae Ac J J J ?_|refine Ag ?_|refine Ah ?_|refine Ai Ac J J ?_|(refine Af J (ht:=fun h=>?_) (hf:=fun h=>?_)<;>try exact prn)|refine Ao ?_|refine Ar ?_|refine A9 (id:=4) (m:=5) Ac Y J J J J ?_|refine AA J J J J ?_|refine CY ?_|refine Ak Ac J J J J J J J (cm) J J ?_|refine AO J J J J J (cw) J J ?_|refine A7 Ac [(26,1)] [(1,26)] J J J J J cd J J J J J ?_|refine Fz Ac J J J J J J (DJ _).symm J ?_)
 exact Au J (Sub.of_eq (by simp only[List.append_assoc]))
theorem Zf:Ct Tryz.prog 110 [.t (.int .i8 5)] [] (.t (.func (.func 172) [] [])) []:=by
 refine ct0 Ac Tryz.func110 J false J J ?_
 repeat'(first|refine An Ac J J J J J ?_|refine Ae Ac J J J ?_|refine Ag ?_|refine Ah ?_|refine Ai Ac J J ?_|refine Ar ?_|refine G0 Ac J J J J J J J J ?_)
 exact Au J (Sub.of_eq J)
theorem Aej (x:Entry) (hk:x.kind=5) (hm:B9 x=true) (ha:x.b.recs.length≤1000000) (hp:x.prod.seen.length≤1000000):Ct Tryz.prog 59 [.agg (Aj (A4 x))] [] (.tuple [.t (.str (AH x)),.t (.int .i64 0)]) []:=by
 have hma:=(FC hm).2
 simp only[hk,if_true,if_false,Int.reduceEq,true_and]at hma
 simp only[Io,decide_eq_true_eq]at hma
 have eB:AH x=[5]++(Cu [x.row.pid,x.row.seq]++Dd x.row.key++Dd x.row.value):=by simp[AH,hk,Cu]
 rw[eB]
 have cm:Ct Tryz.prog 109 [.agg (Aj (A4 x))] [] (.t (.bool true)) []:=hm▸Ha E1 x ha hp
 have cw:Ct Tryz.prog 110 [.t (.int .i8 x.kind)] [] (.t (.func (.func 172) [] [])) []:=by rw[hk];exact Zf
 have e1:T.int .u8 ((UInt8.toNat 5:Nat):Int)=T.int .u8 (IntKind.u8.wrap x.kind):=by rw[hk];rfl
 have cd:=Acu [5] x O O O Z
 replace cd:=cd.weak (Fw.refl _) KO
 simp only[wF,List.map,Bn,e1]at cd
 refine ct0 Ac Tryz.func59 J false J J ?_
 repeat'(first|refine An Ac J J J J J ?_|refine Ae Ac J J J ?_|refine Ag ?_|refine Ah ?_|refine Ai Ac J J ?_|(refine Af J (ht:=fun h=>?_) (hf:=fun h=>?_)<;>try exact prn)|refine Ao ?_|refine Ar ?_|refine A9 (id:=4) (m:=5) Ac Y J J J J ?_|refine AA J J J J ?_|refine CY ?_|refine Ak Ac J J J J J J J (cm) J J ?_|refine AO J J J J J (cw) J J ?_|refine A7 Ac [(26,1)] [(1,26)] J J J J J cd J J J J J ?_|refine Fz Ac J J J J J J (DJ _).symm J ?_)
 exact Au J (Sub.of_eq (by simp only[List.append_assoc]))
theorem Ze:Ct Tryz.prog 110 [.t (.int .i8 6)] [] (.t (.func (.func 173) [] [])) []:=by
 refine ct0 Ac Tryz.func110 J false J J ?_
 repeat'(first|refine An Ac J J J J J ?_|refine Ae Ac J J J ?_|refine Ag ?_|refine Ah ?_|refine Ai Ac J J ?_|refine Ar ?_|refine G0 Ac J J J J J J J J ?_)
 exact Au J (Sub.of_eq J)
theorem Aei (x:Entry) (hk:x.kind=6) (hm:B9 x=true) (ha:x.b.recs.length≤1000000) (hp:x.prod.seen.length≤1000000):Ct Tryz.prog 59 [.agg (Aj (A4 x))] [] (.tuple [.t (.str (AH x)),.t (.int .i64 0)]) []:=by
 have hma:=(FC hm).2
 simp only[hk,if_true,if_false,Int.reduceEq,true_and]at hma
 skip
 have eB:AH x=[6]++(Cu [x.prod.pid,x.prod.epoch,x.prod.next,x.prod.seen.length]++x.prod.seen.flatMap Lg):=by simp[AH,hk,Cu]
 rw[eB]
 have cm:Ct Tryz.prog 109 [.agg (Aj (A4 x))] [] (.t (.bool true)) []:=hm▸Ha E1 x ha hp
 have cw:Ct Tryz.prog 110 [.t (.int .i8 x.kind)] [] (.t (.func (.func 173) [] [])) []:=by rw[hk];exact Ze
 have e1:T.int .u8 ((UInt8.toNat 6:Nat):Int)=T.int .u8 (IntKind.u8.wrap x.kind):=by rw[hk];rfl
 have cd:=X5 [6] x hma Z
 replace cd:=cd.weak (Fw.refl _) KO
 simp only[wF,List.map,Bn,e1]at cd
 refine ct0 Ac Tryz.func59 J false J J ?_
 repeat'(first|refine An Ac J J J J J ?_|refine Ae Ac J J J ?_|refine Ag ?_|refine Ah ?_|refine Ai Ac J J ?_|(refine Af J (ht:=fun h=>?_) (hf:=fun h=>?_)<;>try exact prn)|refine Ao ?_|refine Ar ?_|refine A9 (id:=4) (m:=5) Ac Y J J J J ?_|refine AA J J J J ?_|refine CY ?_|refine Ak Ac J J J J J J J (cm) J J ?_|refine AO J J J J J (cw) J J ?_|refine A7 Ac [(26,1)] [(1,26)] J J J J J cd J J J J J ?_|refine Fz Ac J J J J J J (DJ _).symm J ?_)
 exact Au J (Sub.of_eq (by simp only[List.append_assoc]))
theorem YG (x:Entry) (hm:B9 x=true) (ha:x.b.recs.length≤1000000) (hp:x.prod.seen.length≤1000000):Ct Tryz.prog 59 [.agg (Aj (A4 x))] [] (.tuple [.t (.str (AH x)),.t (.int .i64 0)]) []:=by
 rcases Yn hm with h|h|h|h|h|h|h
 ·exact Aeo x h hm ha hp
 ·exact Aen x h hm ha hp
 ·exact Aem x h hm ha hp
 ·exact Ael x h hm ha hp
 ·exact Aek x h hm ha hp
 ·exact Aej x h hm ha hp
 ·exact Aei x h hm ha hp
theorem YH (x:Entry) (hm:B9 x=false) (ha:x.b.recs.length≤1000000) (hp:x.prod.seen.length≤1000000):Ct Tryz.prog 59 [.agg (Aj (A4 x))] [] (.tuple [.t (.str []),.t (.int .i64 2)]) []:=by
 have cm:Ct Tryz.prog 109 [.agg (Aj (A4 x))] [] (.t (.bool false)) []:=hm▸Ha E1 x ha hp
 refine ct0 Ac Tryz.func59 J false J J ?_
 repeat'(first|refine Ae Ac J J J ?_|refine Ag ?_|refine Ah ?_|refine Ai Ac J J ?_|(refine Af J (ht:=fun h=>?_) (hf:=fun h=>?_)<;>try exact prn)|refine Ar ?_|refine Ak Ac J J J J J J J (cm) J J ?_)
 exact Au J (Sub.of_eq J)
end Go.Proofs.YtpdmaenhenfofaaGreatDoor
namespace Go.Proofs.YtpdmaenhenfofaaGreatDoor
open Go.Am
attribute [local irreducible] Decidable.decide
set_option maxRecDepth 100000
set_option maxHeartbeats 1000000
def Ahc (l:List Entry):Nat:=l.findIdx (fun x=> !B9 x)
theorem Abd {l:List Entry} {i:Nat} {x:Entry} (h:l[i]?=some x) (ha:(l.take i).all B9=true) (hx:B9 x=false):Ahc l=i:=by
 obtain⟨hi,rfl⟩:=List.getElem?_eq_some_iff.1 h
 refine(List.findIdx_eq hi).2 ⟨by simp[hx],fun j hj=>?_⟩
 have:=List.all_eq_true.1 ha l[j] (List.mem_of_getElem? (i:=j) (by rw[List.getElem?_take,if_pos hj,List.getElem?_eq_getElem O]))
 simp[this]
def R4 (l:List Entry):AV:=if l.all B9=true then .tuple [.t (.slice .any 1 ((l.map AH).map DE)),.t .nilIface]else .tuple [.t (.slice .any 1 []),.t (.iface 205 (.ptr [.int .i64 (Ahc l),.int .i64 2]))]
theorem Aep (l:List Entry) (hl:l.length≤1000000) (hsm: ∀x∈l,DV x):Ct Tryz.prog 58 [.t (.slice .any 18 (l.map A4)),.t (.func (.func 59) [] [])] [] (R4 l) []:=by
 have hlm:(l.map A4).length=l.length:=List.length_map ..
 have hfree:(R4 l).free=true:=by unfold R4;split<;>rfl
 refine ct0 Ac Tryz.func58 J false J hfree ?_
 have hcn:(((l.map A4).length:Nat):Int)=((l.length:Nat):Int):=by rw[hlm]
 repeat'(first|refine Ae Ac J J J ?_|refine Ag ?_|refine Ah ?_|refine Ai Ac J J ?_|refine Al ?_|refine NE Ac J J J J J J J (l:=0) J hcn J J O O ?_)
 refine AM (ι:=Nat) (fun i=>i≤l.length∧(l.take i).all B9=true) (fun i=>[(1,.t (.func (.func 59) [] [])),(6,.row 26 1 0 (((l.take i).map AH).map DE).length),(14,.t (.slice .any 18 (l.map A4))),(15,.t (.int .i64 l.length)),(16,.t (.int .i64 i))]) (fun i=>[(26,.grow 1 (((l.take i).map AH).map DE))]) (fun i=>l.length-i) 0 Z ?_ ?_
 ·exact AR [] (Ad J J (Ad J J (Ad J J (Ad J (by rw[hlm]) (Ad J J Aq))))) J
 rintro i ⟨hi,hall⟩
 by_cases hlt:i<l.length
 ·have hr:l[i]?=some l[i]:=List.getElem?_eq_getElem hlt
  have hs:=hsm l[i] (List.getElem_mem hlt)
  generalize l[i]=r at hr hs
  cases hm:B9 r with
  |false=>
   repeat'(first|refine An Ac J J J J J ?_|refine Ae Ac J J J ?_|refine Ag ?_|refine Ah ?_|refine Ai Ac J J ?_|(refine Af J (ht:=fun h=>?_) (hf:=fun h=>?_)<;>try exact prn)|refine Al ?_|refine Ao ?_|refine Ar ?_|refine AD Ac J J J J J J J (A2 Aa) J ?_|refine Ak Ac J J J J J J J (YH r hm hs.1 hs.2) J J ?_)
   have hno:l.all B9=false:=SG hr hm
   refine Au J ?_
   simp only[R4,hno,Abd hr hall hm,Bool.false_eq_true,if_false]
   exact AK ⟨A6,Sub.refl _,trivial⟩
  |true=>
   repeat'(first|refine An Ac J J J J J ?_|refine Ae Ac J J J ?_|refine Ag ?_|refine Ah ?_|refine Ai Ac J J ?_|(refine Af J (ht:=fun h=>?_) (hf:=fun h=>?_)<;>try exact prn)|refine Al ?_|refine Ao ?_|refine AD Ac J J J J J J J (A2 Aa) J ?_|refine AN Ac J J J J J J J J J J J J J J (by simp[AW];omega) ?_|refine Ak Ac J J J J J J J (YG r hm hs.1 hs.2) J J ?_)
   refine AF (i+1) ⟨hlt,Ni hr hall hm⟩ O [8] (Ad J J (Ad J ?_ (Ad J J (Ad J J (Ad J ?_ Aq))))) ?_
   ·rw[AL hr];simp[AW];rfl
   ·rw[A0 O O];rfl
   ·rw[AL hr];simp only[List.map_append,List.map_cons,List.map_nil];rfl
 ·repeat'(first|refine Ae Ac J J J ?_|refine Ag ?_|refine Ah ?_|refine Ai Ac J J ?_|(refine Af J (ht:=fun h=>?_) (hf:=fun h=>?_)<;>try exact prn)|refine AB ?_|refine Ar ?_)
  have hall':=X4 O hall
  refine Au J ?_
  simp only[R4,hall',if_true]
  rw[List.take_of_length_le O]
  refine Sub.of_eq ?_
  simp[BA]
  exact List.take_of_length_le Z
end Go.Proofs.YtpdmaenhenfofaaGreatDoor
