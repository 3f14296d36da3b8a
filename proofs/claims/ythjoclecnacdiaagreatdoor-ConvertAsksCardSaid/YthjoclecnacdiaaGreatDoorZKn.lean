/- Contracts of the program: producers that may be known (a range over a function). -/
import Derived.Test.YthjoclecnacdiaaGreatDoorZPf
import Derived.Test.YthjoclecnacdiaaGreatDoorZM5
set_option linter.unusedVariables false
set_option linter.unusedSimpArgs false
namespace Go.Proofs.YthjoclecnacdiaaGreatDoor
open Go.Am
attribute [local irreducible] Decidable.decide
set_option maxRecDepth 100000
set_option maxHeartbeats 1000000
theorem VV (l:List Seen):Ct Tryz.prog 158 [.t (.slice .any 3 (l.map F2))] [] (.t (.func (.func 195) [] [.ptr [.slice .any 3 (l.map F2)]])) []:=by
 refine ct0 Ab Tryz.func158 J false J J ?_
 refine A9 ?_
 refine Aw Ab J J ?_
 repeat'(first|refine Ak Ab J J J J J ?_|refine Ap Ab J J J ?_|refine A0 ?_|(refine A1 J J J J J (ht:=fun h=>?_) (hf:=fun h=>?_)<;>try exact prn)|(refine A2 J J J J J (ht:=fun h=>?_) (hf:=fun h=>?_)<;>try exact prn)|refine Ag J J J J J ?_|refine Aj Ab J J J J J J J (Ac Z) J ?_|refine Ae Ab J J J J J J J Z (Ac Z) J ?_|refine Ah Ab J J J J J J J J J J J J J (by simp[Ad];omega) ?_|refine Af Ab J J J J J J J J J J J J J J (by simp[Ad];omega) ?_|refine As J J J J ?_|refine A4 ?_|(refine A5 J J J J J (ht:=fun h=>?_) (hf:=fun h=>?_)<;>try exact prn)|(refine A6 J J J J J (ht:=fun h=>?_) (hf:=fun h=>?_)<;>try exact prn)|refine Ai J J J J J ?_|refine An J J J J J J J (Ac Z) J ?_)
 refine Tr.freezeBox (cs:=[.slice .any 3 (l.map F2)]) 1 2 J J J J ?_
 repeat'(first|refine Ak Ab J J J J J ?_|refine Ap Ab J J J ?_|refine A0 ?_|refine A9 ?_|refine Aw Ab J J ?_|(refine A1 J J J J J (ht:=fun h=>?_) (hf:=fun h=>?_)<;>try exact prn)|(refine A2 J J J J J (ht:=fun h=>?_) (hf:=fun h=>?_)<;>try exact prn)|refine Ag J J J J J ?_|(refine Al J (ht:=fun h=>?_) (hf:=fun h=>?_)<;>try exact prn)|refine Au ?_|refine Aq ?_|refine Ar ?_|refine A3 ?_|refine Aj Ab J J J J J J J (Ac Z) J ?_|refine Ae Ab J J J J J J J Z (Ac Z) J ?_|refine Ah Ab J J J J J J J J J J J J J (by simp[Ad];omega) ?_|refine Af Ab J J J J J J J J J J J J J J (by simp[Ad];omega) ?_|refine As J J J J ?_|refine A4 ?_|(refine A5 J J J J J (ht:=fun h=>?_) (hf:=fun h=>?_)<;>try exact prn)|(refine A6 J J J J J (ht:=fun h=>?_) (hf:=fun h=>?_)<;>try exact prn)|refine Ai J J J J J ?_|refine An J J J J J J J (Ac Z) J ?_)
 exact AC J (Sub.of_eq J)
def dn:Nat→Int
 |0=> -1
 |j+1=>j
theorem XC (n:Nat):((n:Nat):Int)-1=dn n:=by
 cases n with
 |zero=>rfl
 |succ j=>simp[dn]
theorem IA {next:Int}: ∀{l:List Seen} {i:Nat},Cx next (l.drop i)=false→Cx next l=false
 |l,0,h=>by simpa using h
 |[],i+1,h=>by simp[Cx]at h
 |a::r,i+1,h=>by
  have:=IA (l:=r) (i:=i) (by simpa using h)
  simp[Cx,this]
theorem U4 {next:Int} {l:List Seen} {i:Nat} {r:Seen} (hr:l[i]?=some r) (h:Cx next (l.drop (i+1))=true) (hn: ¬Gn r):Cx next l=false:=by
 refine IA (i:=i) ?_
 rw[Gb hr]
 simp[Cx,hn]
theorem Tf {next:Int} {l:List Seen} {i:Nat} {r:Seen} (hr:l[i]?=some r) (h:Cx next (l.drop (i+1))=true) (hn: ¬(Gn r∧r.seq≤E5 next (l.drop (i+1))-r.count)):Cx next l=false:=by
 refine IA (i:=i) ?_
 rw[Gb hr]
 simp only[Cx,h,hn,decide_false,Bool.false_and]
theorem Uj (p:Prod) (hp:p.seen.length≤1000000):Ct Tryz.prog 117 [.agg (AA (KR p))] [] (.t (.bool (GY p))) []:=by
 refine ct0 Ab Tryz.func117 J false J J ?_
 have hlm:(p.seen.map F2).length=p.seen.length:=List.length_map ..
 repeat'(first|refine Ak Ab J J J J J ?_|refine Ap Ab J J J ?_|refine A0 ?_|refine A9 ?_|refine Aw Ab J J ?_|(refine A1 J J J J J (ht:=fun h=>?_) (hf:=fun h=>?_)<;>try exact prn)|(refine A2 J J J J J (ht:=fun h=>?_) (hf:=fun h=>?_)<;>try exact prn)|refine Ag J J J J J ?_|(refine Al J (ht:=fun h=>?_) (hf:=fun h=>?_)<;>try exact prn)|refine Au ?_|refine Aq ?_|refine Ar ?_|refine A3 ?_|refine Aj Ab J J J J J J J (Ac Z) J ?_|refine Ae Ab J J J J J J J Z (Ac Z) J ?_|refine Ah Ab J J J J J J J J J J J J J (by simp[Ad];omega) ?_|refine Af Ab J J J J J J J J J J J J J J (by simp[Ad];omega) ?_|refine As J J J J ?_|refine A4 ?_|(refine A5 J J J J J (ht:=fun h=>?_) (hf:=fun h=>?_)<;>try exact prn)|(refine A6 J J J J J (ht:=fun h=>?_) (hf:=fun h=>?_)<;>try exact prn)|refine Ai J J J J J ?_|refine An J J J J J J J (Ac Z) J ?_|refine A7 Ab J J J J J J J (VQ _) J J ?_|refine A7 Ab J J J J J J J (NY _ _) J J ?_|refine A7 Ab J J J J J J J (VV p.seen) J J ?_)
 all_goals try(refine AC J (BN (Uk ?_));unfold EN;omega)
 have hb:EN p:=by unfold EN;omega
 have hb':=hb;unfold EN at hb'
 refine Tr.weak (E:=[(2,.ref 4 0),(3,.ref 6 0),(28,.t (.func (.func 195) [] [.ptr [.slice .any 3 (p.seen.map F2)]]))]) (S:=[(6,.cells [.t (.int .i64 p.next)]),(4,.cells [.t (.bool false)]),(2,.cells (AA (KR p)))]) ?_ (Ce [] (Av J J (Av J J (Av J J AJ))) J)
 refine R1 Ab J Tryz.func195 J J (fun l=>?_)
 generalize hB:Blk.loop l .ready none _ _ _ _ _=B
 repeat'(first|refine Ak Ab J J J J J ?_|refine Ap Ab J J J ?_|refine A0 ?_|refine A9 ?_|refine Aw Ab J J ?_|(refine A1 J J J J J (ht:=fun h=>?_) (hf:=fun h=>?_)<;>try exact prn)|(refine A2 J J J J J (ht:=fun h=>?_) (hf:=fun h=>?_)<;>try exact prn)|refine Ag J J J J J ?_|(refine Al J (ht:=fun h=>?_) (hf:=fun h=>?_)<;>try exact prn)|refine Au ?_|refine Aq ?_|refine Ar ?_|refine A3 ?_|refine Aj Ab J J J J J J J (Ac Z) J ?_|refine Ae Ab J J J J J J J Z (Ac Z) J ?_|refine Ah Ab J J J J J J J J J J J J J (by simp[Ad];omega) ?_|refine Af Ab J J J J J J J J J J J J J J (by simp[Ad];omega) ?_|refine As J J J J ?_|refine A4 ?_|(refine A5 J J J J J (ht:=fun h=>?_) (hf:=fun h=>?_)<;>try exact prn)|(refine A6 J J J J J (ht:=fun h=>?_) (hf:=fun h=>?_)<;>try exact prn)|refine Ai J J J J J ?_|refine An J J J J J J J (Ac Z) J ?_)
 refine BC (ι:=Nat) (fun i=>i≤p.seen.length∧Cx p.next (p.seen.drop i)=true) (fun i=>[(0,.t (.func (.yield l) [] [])),(1,.t (.ptr [.slice .any 3 (p.seen.map F2)])),(3,.t (.int .i64 (dn i)))]) (fun i=>[(JH,B),(13,.cells [.t (.int .i64 (E5 p.next (p.seen.drop i)))]),(9,.cells [.t (.bool false)]),(5,.cells (AA (KR p)))]) (fun i=>i) p.seen.length (by simp[Cx]) ?_ ?_
 ·refine Ce [] (Av J J (Av J J (Av J ?_ AJ))) ?_
  ·rw[hlm,AW O O,XC]
  ·rw[List.drop_of_length_le (Nat.le_refl _)];rfl
 rintro i ⟨hi,hch⟩
 subst hB
 cases i with
 |zero=>
  rw[show dn 0= -1 from rfl]
  repeat'(first|refine Ak Ab J J J J J ?_|refine Ap Ab J J J ?_|refine A0 ?_|refine A9 ?_|refine Aw Ab J J ?_|(refine A1 J J J J J (ht:=fun h=>?_) (hf:=fun h=>?_)<;>try exact prn)|(refine A2 J J J J J (ht:=fun h=>?_) (hf:=fun h=>?_)<;>try exact prn)|refine Ag J J J J J ?_|(refine Al J (ht:=fun h=>?_) (hf:=fun h=>?_)<;>try exact prn)|refine Au ?_|refine Aq ?_|refine Ar ?_|refine A3 ?_|refine Aj Ab J J J J J J J (Ac Z) J ?_|refine Ae Ab J J J J J J J Z (Ac Z) J ?_|refine Ah Ab J J J J J J J J J J J J J (by simp[Ad];omega) ?_|refine Af Ab J J J J J J J J J J J J J J (by simp[Ad];omega) ?_|refine As J J J J ?_|refine A4 ?_|(refine A5 J J J J J (ht:=fun h=>?_) (hf:=fun h=>?_)<;>try exact prn)|(refine A6 J J J J J (ht:=fun h=>?_) (hf:=fun h=>?_)<;>try exact prn)|refine Ai J J J J J ?_|refine An J J J J J J J (Ac Z) J ?_)
  refine⟨.inl J,J,_,_,_,_,J,Y,J,?_⟩
  repeat'(first|refine Ak Ab J J J J J ?_|refine Ap Ab J J J ?_|refine A0 ?_|refine A9 ?_|refine Aw Ab J J ?_|(refine A1 J J J J J (ht:=fun h=>?_) (hf:=fun h=>?_)<;>try exact prn)|(refine A2 J J J J J (ht:=fun h=>?_) (hf:=fun h=>?_)<;>try exact prn)|refine Ag J J J J J ?_|(refine Al J (ht:=fun h=>?_) (hf:=fun h=>?_)<;>try exact prn)|refine Au ?_|refine Aq ?_|refine Ar ?_|refine A3 ?_|refine Aj Ab J J J J J J J (Ac Z) J ?_|refine Ae Ab J J J J J J J Z (Ac Z) J ?_|refine Ah Ab J J J J J J J J J J J J J (by simp[Ad];omega) ?_|refine Af Ab J J J J J J J J J J J J J J (by simp[Ad];omega) ?_|refine As J J J J ?_|refine A4 ?_|(refine A5 J J J J J (ht:=fun h=>?_) (hf:=fun h=>?_)<;>try exact prn)|(refine A6 J J J J J (ht:=fun h=>?_) (hf:=fun h=>?_)<;>try exact prn)|refine Ai J J J J J ?_|refine An J J J J J J J (Ac Z) J ?_)
  exact AC J (BN (SP hb hch))
 |succ i=>
  have hr:p.seen[i]?=some p.seen[i]:=List.getElem?_eq_getElem O
  generalize p.seen[i]=r at hr
  rw[show dn (i+1)=(i:Int)from rfl]
  repeat'(first|refine Ak Ab J J J J J ?_|refine Ap Ab J J J ?_|refine A0 ?_|refine A9 ?_|refine Aw Ab J J ?_|(refine A1 J J J J J (ht:=fun h=>?_) (hf:=fun h=>?_)<;>try exact prn)|(refine A2 J J J J J (ht:=fun h=>?_) (hf:=fun h=>?_)<;>try exact prn)|refine Ag J J J J J ?_|(refine Al J (ht:=fun h=>?_) (hf:=fun h=>?_)<;>try exact prn)|refine Au ?_|refine Aq ?_|refine Ar ?_|refine A3 ?_|refine Aj Ab J J J J J J J (Ac Z) J ?_|refine Ae Ab J J J J J J J Z (Ac Z) J ?_|refine Ah Ab J J J J J J J J J J J J J (by simp[Ad];omega) ?_|refine Af Ab J J J J J J J J J J J J J J (by simp[Ad];omega) ?_|refine As J J J J ?_|refine A4 ?_|(refine A5 J J J J J (ht:=fun h=>?_) (hf:=fun h=>?_)<;>try exact prn)|(refine A6 J J J J J (ht:=fun h=>?_) (hf:=fun h=>?_)<;>try exact prn)|refine Ai J J J J J ?_|refine An J J J J J J J (Ac Z) J ?_|refine UO (b:=JH) J J J J J J J J J J ?_|refine⟨J,_,J,?_⟩|refine⟨_,_,_,_,J,J,_,J,?_⟩)
  all_goals try(refine⟨.inr J,J,_,_,_,_,J,Y,J,?_⟩;exact AC J (BN (OV (U4 hr hch (by unfold Gn;omega)))))
  all_goals(
   have hbb:=J6 O O hch
   have hw:IntKind.i64.wrap (E5 p.next (p.seen.drop (i+1))-r.count)=E5 p.next (p.seen.drop (i+1))-r.count:=AW O O)
  ·refine⟨.inr J,J,_,_,_,_,J,Y,J,?_⟩
   exact AC J (BN (OV (Tf hr hch (by unfold Gn;omega))))
  ·refine BB i ⟨by omega,?_⟩ O [5] (Av J J (Av J J (Av J ?_ AJ))) ?_
   ·rw[Gb hr];simp only[Cx,hch,Bool.and_true,decide_eq_true_eq];unfold Gn;omega
   ·rw[AW O O,XC];rfl
   ·rw[Gb hr];rfl
end Go.Proofs.YthjoclecnacdiaaGreatDoor
