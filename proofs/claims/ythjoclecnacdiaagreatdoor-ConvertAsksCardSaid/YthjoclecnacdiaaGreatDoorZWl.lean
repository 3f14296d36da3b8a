/- Contracts of the program and of references: what is asked, by tables. -/
import Derived.Test.YthjoclecnacdiaaGreatDoorZM9
import Derived.Test.YthjoclecnacdiaaGreatDoorZM10
import Derived.Test.YthjoclecnacdiaaGreatDoorZM11
import Derived.Test.YthjoclecnacdiaaGreatDoorZWj
import Derived.Test.YthjoclecnacdiaaGreatDoorZWf
import Derived.Test.YthjoclecnacdiaaGreatDoorZWh
set_option linter.unusedVariables false
set_option linter.unusedSimpArgs false
namespace Go.Proofs.YthjoclecnacdiaaGreatDoor
open Go.Am
attribute [local irreducible] Decidable.decide
set_option maxRecDepth 100000
set_option maxHeartbeats 1000000
theorem OP {r:Req} (h:B4 r=true) (hk:E7 r.kind=true):(0≤r.part∧r.part≤2)∧(0≤r.offset∧r.offset≤1048576):=by
 simp only[E7,decide_eq_true_eq]at hk
 simp only[B4,Bool.and_eq_true]at h
 have h1:=h.1
 simp only[Bi]at h1
 rcases hk with e|e|e|e<;>rw[e]at h1<;>simp at h1<;>omega
theorem KH {l:List Table} {i:Int} (h:l.length=3) (h0:0≤i∧i≤2): ∃k:Nat,i=(k:Int)∧l[k]?=some (Cs l i):=by
 refine⟨i.toNat,by omega,?_⟩
 have:i.toNat<l.length:=by omega
 simp[Cs,List.getElem?_eq_getElem this]
def II (l:List Table):Prop:=l.length≤1000000∧ ∀t∈l,t.new.length≤1000000000
theorem EG {l:List Table} (h:Bq l=true):l.length=3:=by
 simp only[Bq,Bool.and_eq_true,decide_eq_true_eq]at h;exact h.1
theorem PQ (r:Req) (l:List Table) (h:B4 r=false∨Bq l=false):Hp r l=2∧GF r l=FA 0:=by
 have e:Hp r l=2:=if_pos h
 exact⟨e,by unfold GF;rw[e];rfl⟩
theorem Mj (r:Req) (l:List Table) (h1:B4 r=true) (h2:Bq l=true) (hk:E7 r.kind=false):Hp r l=0∧GF r l=r:=by
 have e:Hp r l=0:=by simp[Hp,h1,h2,hk]
 exact⟨e,by simp[GF,e,hk]⟩
theorem PP (r:Req) (l:List Table) (h1:B4 r=true) (h2:Bq l=true) (hk:E7 r.kind=true):Hp r l=toE (Cs l r.part) r.offset∧GF r l=if toE (Cs l r.part) r.offset≠0 then FA 0 else{r with offset:=toN (Cs l r.part) r.offset}:=by
 have e:Hp r l=toE (Cs l r.part) r.offset:=by simp[Hp,h1,h2,hk]
 exact⟨e,by simp[GF,e,hk]⟩
theorem F7 {n:Int}:Sub (AV.tuple [AV.agg [AV.t (T.int IntKind.i8 0),AV.t (T.int IntKind.i64 0),AV.t (T.int IntKind.i64 0),AV.t (T.int IntKind.i64 0),AV.t (T.int IntKind.i64 0),AV.t (T.int IntKind.i64 0),AV.t (T.int IntKind.i64 0),AV.t (T.int IntKind.i64 0),AV.t (T.int IntKind.i64 0),AV.t (T.bool false),AV.t (T.int IntKind.i64 0),AV.t (T.int IntKind.i64 0),AV.t (T.int IntKind.i64 0),AV.t (T.bool false),AV.t (T.slice SM.nil 0 [])],AV.t (T.int IntKind.i64 n)]) (AV.tuple [AV.agg (AA (BU (FA 0))),AV.t (T.int IntKind.i64 n)]):=
 BL ⟨BM (show Dm _ _ from⟨Sub.refl _,Sub.refl _,Sub.refl _,Sub.refl _,Sub.refl _,Sub.refl _,Sub.refl _,Sub.refl _,Sub.refl _,Sub.refl _,Sub.refl _,Sub.refl _,Sub.refl _,Sub.refl _,AY,trivial⟩),Sub.refl _,trivial⟩
theorem VW (r:Req) (l:List Table) (hq:r.b.recs.length≤1000000) (hl:II l):Ct Tryz.prog 8 [.agg (AA (BU r)),.t (.slice .any 3 (l.map AN))] [] (.tuple [.agg (AA (BU (GF r l))),.t (.int .i64 (Hp r l))]) []:=by
 have hlm:(l.map AN).length=l.length:=List.length_map ..
 have cm:=TB r hq
 have cr:=OD l (Nat.le_trans hl.1 Aa) hl.2
 have cf:=VL r hq
 by_cases hb:B4 r=false∨Bq l=false
 ·obtain⟨e1,e2⟩:=PQ r l hb
  rw[e1,e2]
  rcases hb with hb|hb
  ·rw[hb]at cm
   refine ct0 Ab Tryz.func8 J false J J ?_
   repeat'(first|refine Ak Ab J J J J J ?_|refine Ap Ab J J J ?_|refine A0 ?_|refine A9 ?_|refine Aw Ab J J ?_|(refine A1 J J J J J (ht:=fun h=>?_) (hf:=fun h=>?_)<;>try exact prn)|(refine A2 J J J J J (ht:=fun h=>?_) (hf:=fun h=>?_)<;>try exact prn)|refine Ag J J J J J ?_|(refine Al J (ht:=fun h=>?_) (hf:=fun h=>?_)<;>try exact prn)|refine Au ?_|refine Aq ?_|refine Ar ?_|refine A3 ?_|refine Aj Ab J J J J J J J (Ac Z) J ?_|refine Ae Ab J J J J J J J Z (Ac Z) J ?_|refine Ah Ab J J J J J J J J J J J J J (by simp[Ad];omega) ?_|refine Af Ab J J J J J J J J J J J J J J (by simp[Ad];omega) ?_|refine A8 Ab J J J J J (fun _=>rfl) (fun b hb=>?_)|refine AD (id:=9) (m:=12) Ab U J J J J ?_|refine As J J J J ?_|refine A4 ?_|(refine A5 J J J J J (ht:=fun h=>?_) (hf:=fun h=>?_)<;>try exact prn)|(refine A6 J J J J J (ht:=fun h=>?_) (hf:=fun h=>?_)<;>try exact prn)|refine Ai J J J J J ?_|refine An J J J J J J J (Ac Z) J ?_|refine Ao J J J J J J J Z (Ac Z) J ?_|refine A7 Ab J J J J J J J (cm) J J ?_)
   (first|exact AC J (Sub.of_eq J)|exact AC J F7)
  ·rw[hb]at cr
   refine ct0 Ab Tryz.func8 J false J J ?_
   repeat'(first|refine Ak Ab J J J J J ?_|refine Ap Ab J J J ?_|refine A0 ?_|refine A9 ?_|refine Aw Ab J J ?_|(refine A1 J J J J J (ht:=fun h=>?_) (hf:=fun h=>?_)<;>try exact prn)|(refine A2 J J J J J (ht:=fun h=>?_) (hf:=fun h=>?_)<;>try exact prn)|refine Ag J J J J J ?_|(refine Al J (ht:=fun h=>?_) (hf:=fun h=>?_)<;>try exact prn)|refine Au ?_|refine Aq ?_|refine Ar ?_|refine A3 ?_|refine Aj Ab J J J J J J J (Ac Z) J ?_|refine Ae Ab J J J J J J J Z (Ac Z) J ?_|refine Ah Ab J J J J J J J J J J J J J (by simp[Ad];omega) ?_|refine Af Ab J J J J J J J J J J J J J J (by simp[Ad];omega) ?_|refine A8 Ab J J J J J (fun _=>rfl) (fun b hb=>?_)|refine AD (id:=9) (m:=12) Ab U J J J J ?_|refine As J J J J ?_|refine A4 ?_|(refine A5 J J J J J (ht:=fun h=>?_) (hf:=fun h=>?_)<;>try exact prn)|(refine A6 J J J J J (ht:=fun h=>?_) (hf:=fun h=>?_)<;>try exact prn)|refine Ai J J J J J ?_|refine An J J J J J J J (Ac Z) J ?_|refine Ao J J J J J J J Z (Ac Z) J ?_|refine A7 Ab J J J J J J J (cm) J J ?_|refine A7 Ab J J J J J J J (cr) J J ?_)
   all_goals(first|exact AC J (Sub.of_eq J)|exact AC J F7)
 have h1:B4 r=true:=by cases h:B4 r<;>simp_all
 have h2:Bq l=true:=by cases h:Bq l<;>simp_all
 rw[h1]at cm;rw[h2]at cr
 cases hk:E7 r.kind with
 |false=>
  obtain⟨e1,e2⟩:=Mj r l h1 h2 hk
  rw[e1,e2]
  simp only[E7,decide_eq_false_iff_not]at hk
  refine ct0 Ab Tryz.func8 J false J J ?_
  repeat'(first|refine Ak Ab J J J J J ?_|refine Ap Ab J J J ?_|refine A0 ?_|refine A9 ?_|refine Aw Ab J J ?_|(refine A1 J J J J J (ht:=fun h=>?_) (hf:=fun h=>?_)<;>try exact prn)|(refine A2 J J J J J (ht:=fun h=>?_) (hf:=fun h=>?_)<;>try exact prn)|refine Ag J J J J J ?_|(refine Al J (ht:=fun h=>?_) (hf:=fun h=>?_)<;>try exact prn)|refine Au ?_|refine Aq ?_|refine Ar ?_|refine A3 ?_|refine Aj Ab J J J J J J J (Ac Z) J ?_|refine Ae Ab J J J J J J J Z (Ac Z) J ?_|refine Ah Ab J J J J J J J J J J J J J (by simp[Ad];omega) ?_|refine Af Ab J J J J J J J J J J J J J J (by simp[Ad];omega) ?_|refine A8 Ab J J J J J (fun _=>rfl) (fun b hb=>?_)|refine AD (id:=9) (m:=12) Ab U J J J J ?_|refine As J J J J ?_|refine A4 ?_|(refine A5 J J J J J (ht:=fun h=>?_) (hf:=fun h=>?_)<;>try exact prn)|(refine A6 J J J J J (ht:=fun h=>?_) (hf:=fun h=>?_)<;>try exact prn)|refine Ai J J J J J ?_|refine An J J J J J J J (Ac Z) J ?_|refine Ao J J J J J J J Z (Ac Z) J ?_|refine A7 Ab J J J J J J J (cm) J J ?_|refine A7 Ab J J J J J J J (cr) J J ?_|refine A7 Ab J J J J J J J (cf) J J ?_)
  all_goals first|(first|exact AC J (Sub.of_eq J)|exact AC J F7)|(exfalso;omega)
 |true=>
  obtain⟨e1,e2⟩:=PP r l h1 h2 hk
  obtain⟨hp,ho⟩:=OP h1 hk
  obtain⟨k,hki,hkl⟩:=KH (EG h2) hp
  have ct:=Qm (Cs l r.part) r.offset (hl.2 _ (List.mem_of_getElem? hkl)) O
  rw[e1,e2]
  generalize Cs l r.part=t at*
  simp only[E7,decide_eq_true_eq]at hk
  by_cases h0:toE t r.offset=0
  ·rw[if_neg (by simp[h0])]
   rw[h0]at ct⊢
   refine ct0 Ab Tryz.func8 J false J J ?_
   repeat'(first|refine Ak Ab J J J J J ?_|refine Ap Ab J J J ?_|refine A0 ?_|refine A9 ?_|refine Aw Ab J J ?_|(refine A1 J J J J J (ht:=fun h=>?_) (hf:=fun h=>?_)<;>try exact prn)|(refine A2 J J J J J (ht:=fun h=>?_) (hf:=fun h=>?_)<;>try exact prn)|refine Ag J J J J J ?_|(refine Al J (ht:=fun h=>?_) (hf:=fun h=>?_)<;>try exact prn)|refine Au ?_|refine Aq ?_|refine Ar ?_|refine A3 ?_|refine Aj Ab J J J J J J J (Ac Z) J ?_|refine Ae Ab J J J J J J J Z (Ac Z) J ?_|refine Ah Ab J J J J J J J J J J J J J (by simp[Ad];omega) ?_|refine Af Ab J J J J J J J J J J J J J J (by simp[Ad];omega) ?_|refine A8 Ab J J J J J (fun _=>rfl) (fun b hb=>?_)|refine AD (id:=9) (m:=12) Ab U J J J J ?_|refine As J J J J ?_|refine A4 ?_|(refine A5 J J J J J (ht:=fun h=>?_) (hf:=fun h=>?_)<;>try exact prn)|(refine A6 J J J J J (ht:=fun h=>?_) (hf:=fun h=>?_)<;>try exact prn)|refine Ai J J J J J ?_|refine An J J J J J J J (Ac Z) J ?_|refine Ao J J J J J J J Z (Ac Z) J ?_|refine A7 Ab J J J J J J J (cm) J J ?_|refine A7 Ab J J J J J J J (cr) J J ?_|refine A7 Ab J J J J J J J (cf) J J ?_|refine Ao J J J J J J J hki (Ac hkl) J ?_|refine Bv J J J J J (ct) J J ?_|refine A7 Ab J J J J J J J (ct) J J ?_)
   all_goals first|(first|exact AC J (Sub.of_eq J)|exact AC J F7)|(exfalso;omega)
  ·rw[if_pos h0]
   refine ct0 Ab Tryz.func8 J false J J ?_
   repeat'(first|refine Ak Ab J J J J J ?_|refine Ap Ab J J J ?_|refine A0 ?_|refine A9 ?_|refine Aw Ab J J ?_|(refine A1 J J J J J (ht:=fun h=>?_) (hf:=fun h=>?_)<;>try exact prn)|(refine A2 J J J J J (ht:=fun h=>?_) (hf:=fun h=>?_)<;>try exact prn)|refine Ag J J J J J ?_|(refine Al J (ht:=fun h=>?_) (hf:=fun h=>?_)<;>try exact prn)|refine Au ?_|refine Aq ?_|refine Ar ?_|refine A3 ?_|refine Aj Ab J J J J J J J (Ac Z) J ?_|refine Ae Ab J J J J J J J Z (Ac Z) J ?_|refine Ah Ab J J J J J J J J J J J J J (by simp[Ad];omega) ?_|refine Af Ab J J J J J J J J J J J J J J (by simp[Ad];omega) ?_|refine A8 Ab J J J J J (fun _=>rfl) (fun b hb=>?_)|refine AD (id:=9) (m:=12) Ab U J J J J ?_|refine As J J J J ?_|refine A4 ?_|(refine A5 J J J J J (ht:=fun h=>?_) (hf:=fun h=>?_)<;>try exact prn)|(refine A6 J J J J J (ht:=fun h=>?_) (hf:=fun h=>?_)<;>try exact prn)|refine Ai J J J J J ?_|refine An J J J J J J J (Ac Z) J ?_|refine Ao J J J J J J J Z (Ac Z) J ?_|refine A7 Ab J J J J J J J (cm) J J ?_|refine A7 Ab J J J J J J J (cr) J J ?_|refine A7 Ab J J J J J J J (cf) J J ?_|refine Ao J J J J J J J hki (Ac hkl) J ?_|refine Bv J J J J J (ct) J J ?_|refine A7 Ab J J J J J J J (ct) J J ?_)
   all_goals first|(first|exact AC J (Sub.of_eq J)|exact AC J F7)|(exfalso;omega)
theorem TO (r:Req) (l:List Table) (hq:r.b.recs.length≤1000000) (hl:II l):Ct Tryz.prog 9 [.agg (AA (BU r)),.t (.slice .any 3 (l.map AN))] [] (.tuple [.agg (AA (BU (GF r l))),.t (.int .i64 (Hp r l))]) []:=by
 have hlm:(l.map AN).length=l.length:=List.length_map ..
 have cm:=VA r hq
 have cr:=Lp l (Nat.le_trans hl.1 Aa) hl.2
 by_cases hb:B4 r=false∨Bq l=false
 ·obtain⟨e1,e2⟩:=PQ r l hb
  rw[e1,e2]
  rcases hb with hb|hb
  ·rw[hb]at cm
   refine ct0 Ab Tryz.func9 J false J J ?_
   repeat'(first|refine Ak Ab J J J J J ?_|refine Ap Ab J J J ?_|refine A0 ?_|refine A9 ?_|refine Aw Ab J J ?_|(refine A1 J J J J J (ht:=fun h=>?_) (hf:=fun h=>?_)<;>try exact prn)|(refine A2 J J J J J (ht:=fun h=>?_) (hf:=fun h=>?_)<;>try exact prn)|refine Ag J J J J J ?_|(refine Al J (ht:=fun h=>?_) (hf:=fun h=>?_)<;>try exact prn)|refine Au ?_|refine Aq ?_|refine Ar ?_|refine A3 ?_|refine Aj Ab J J J J J J J (Ac Z) J ?_|refine Ae Ab J J J J J J J Z (Ac Z) J ?_|refine Ah Ab J J J J J J J J J J J J J (by simp[Ad];omega) ?_|refine Af Ab J J J J J J J J J J J J J J (by simp[Ad];omega) ?_|refine A8 Ab J J J J J (fun _=>rfl) (fun b hb=>?_)|refine AD (id:=5) (m:=12) Ab U J J J J ?_|refine As J J J J ?_|refine A4 ?_|(refine A5 J J J J J (ht:=fun h=>?_) (hf:=fun h=>?_)<;>try exact prn)|(refine A6 J J J J J (ht:=fun h=>?_) (hf:=fun h=>?_)<;>try exact prn)|refine Ai J J J J J ?_|refine An J J J J J J J (Ac Z) J ?_|refine Ao J J J J J J J Z (Ac Z) J ?_|refine A7 Ab J J J J J J J (cm) J J ?_)
   (first|exact AC J (Sub.of_eq J)|exact AC J F7)
  ·rw[hb]at cr
   refine ct0 Ab Tryz.func9 J false J J ?_
   repeat'(first|refine Ak Ab J J J J J ?_|refine Ap Ab J J J ?_|refine A0 ?_|refine A9 ?_|refine Aw Ab J J ?_|(refine A1 J J J J J (ht:=fun h=>?_) (hf:=fun h=>?_)<;>try exact prn)|(refine A2 J J J J J (ht:=fun h=>?_) (hf:=fun h=>?_)<;>try exact prn)|refine Ag J J J J J ?_|(refine Al J (ht:=fun h=>?_) (hf:=fun h=>?_)<;>try exact prn)|refine Au ?_|refine Aq ?_|refine Ar ?_|refine A3 ?_|refine Aj Ab J J J J J J J (Ac Z) J ?_|refine Ae Ab J J J J J J J Z (Ac Z) J ?_|refine Ah Ab J J J J J J J J J J J J J (by simp[Ad];omega) ?_|refine Af Ab J J J J J J J J J J J J J J (by simp[Ad];omega) ?_|refine A8 Ab J J J J J (fun _=>rfl) (fun b hb=>?_)|refine AD (id:=5) (m:=12) Ab U J J J J ?_|refine As J J J J ?_|refine A4 ?_|(refine A5 J J J J J (ht:=fun h=>?_) (hf:=fun h=>?_)<;>try exact prn)|(refine A6 J J J J J (ht:=fun h=>?_) (hf:=fun h=>?_)<;>try exact prn)|refine Ai J J J J J ?_|refine An J J J J J J J (Ac Z) J ?_|refine Ao J J J J J J J Z (Ac Z) J ?_|refine A7 Ab J J J J J J J (cm) J J ?_|refine A7 Ab J J J J J J J (cr) J J ?_)
   all_goals(first|exact AC J (Sub.of_eq J)|exact AC J F7)
 have h1:B4 r=true:=by cases h:B4 r<;>simp_all
 have h2:Bq l=true:=by cases h:Bq l<;>simp_all
 rw[h1]at cm;rw[h2]at cr
 cases hk:E7 r.kind with
 |false=>
  obtain⟨e1,e2⟩:=Mj r l h1 h2 hk
  rw[e1,e2]
  simp only[E7,decide_eq_false_iff_not]at hk
  refine ct0 Ab Tryz.func9 J false J J ?_
  repeat'(first|refine Ak Ab J J J J J ?_|refine Ap Ab J J J ?_|refine A0 ?_|refine A9 ?_|refine Aw Ab J J ?_|(refine A1 J J J J J (ht:=fun h=>?_) (hf:=fun h=>?_)<;>try exact prn)|(refine A2 J J J J J (ht:=fun h=>?_) (hf:=fun h=>?_)<;>try exact prn)|refine Ag J J J J J ?_|(refine Al J (ht:=fun h=>?_) (hf:=fun h=>?_)<;>try exact prn)|refine Au ?_|refine Aq ?_|refine Ar ?_|refine A3 ?_|refine Aj Ab J J J J J J J (Ac Z) J ?_|refine Ae Ab J J J J J J J Z (Ac Z) J ?_|refine Ah Ab J J J J J J J J J J J J J (by simp[Ad];omega) ?_|refine Af Ab J J J J J J J J J J J J J J (by simp[Ad];omega) ?_|refine A8 Ab J J J J J (fun _=>rfl) (fun b hb=>?_)|refine AD (id:=5) (m:=12) Ab U J J J J ?_|refine As J J J J ?_|refine A4 ?_|(refine A5 J J J J J (ht:=fun h=>?_) (hf:=fun h=>?_)<;>try exact prn)|(refine A6 J J J J J (ht:=fun h=>?_) (hf:=fun h=>?_)<;>try exact prn)|refine Ai J J J J J ?_|refine An J J J J J J J (Ac Z) J ?_|refine Ao J J J J J J J Z (Ac Z) J ?_|refine A7 Ab J J J J J J J (cm) J J ?_|refine A7 Ab J J J J J J J (cr) J J ?_)
  all_goals first|(first|exact AC J (Sub.of_eq J)|exact AC J F7)|(exfalso;omega)
 |true=>
  obtain⟨e1,e2⟩:=PP r l h1 h2 hk
  obtain⟨hp,ho⟩:=OP h1 hk
  obtain⟨k,hki,hkl⟩:=KH (EG h2) hp
  have ct:=IR (Cs l r.part) r.offset (hl.2 _ (List.mem_of_getElem? hkl)) O
  rw[e1,e2]
  generalize Cs l r.part=t at*
  simp only[E7,decide_eq_true_eq]at hk
  by_cases h0:toE t r.offset=0
  ·rw[if_neg (by simp[h0])]
   rw[h0]at ct⊢
   refine ct0 Ab Tryz.func9 J false J J ?_
   repeat'(first|refine Ak Ab J J J J J ?_|refine Ap Ab J J J ?_|refine A0 ?_|refine A9 ?_|refine Aw Ab J J ?_|(refine A1 J J J J J (ht:=fun h=>?_) (hf:=fun h=>?_)<;>try exact prn)|(refine A2 J J J J J (ht:=fun h=>?_) (hf:=fun h=>?_)<;>try exact prn)|refine Ag J J J J J ?_|(refine Al J (ht:=fun h=>?_) (hf:=fun h=>?_)<;>try exact prn)|refine Au ?_|refine Aq ?_|refine Ar ?_|refine A3 ?_|refine Aj Ab J J J J J J J (Ac Z) J ?_|refine Ae Ab J J J J J J J Z (Ac Z) J ?_|refine Ah Ab J J J J J J J J J J J J J (by simp[Ad];omega) ?_|refine Af Ab J J J J J J J J J J J J J J (by simp[Ad];omega) ?_|refine A8 Ab J J J J J (fun _=>rfl) (fun b hb=>?_)|refine AD (id:=5) (m:=12) Ab U J J J J ?_|refine As J J J J ?_|refine A4 ?_|(refine A5 J J J J J (ht:=fun h=>?_) (hf:=fun h=>?_)<;>try exact prn)|(refine A6 J J J J J (ht:=fun h=>?_) (hf:=fun h=>?_)<;>try exact prn)|refine Ai J J J J J ?_|refine An J J J J J J J (Ac Z) J ?_|refine Ao J J J J J J J Z (Ac Z) J ?_|refine A7 Ab J J J J J J J (cm) J J ?_|refine A7 Ab J J J J J J J (cr) J J ?_|refine Ao J J J J J J J hki (Ac hkl) J ?_|refine Bv J J J J J (ct) J J ?_|refine A7 Ab J J J J J J J (ct) J J ?_)
   all_goals first|(first|exact AC J (Sub.of_eq J)|exact AC J F7)|(exfalso;omega)
  ·rw[if_pos h0]
   refine ct0 Ab Tryz.func9 J false J J ?_
   repeat'(first|refine Ak Ab J J J J J ?_|refine Ap Ab J J J ?_|refine A0 ?_|refine A9 ?_|refine Aw Ab J J ?_|(refine A1 J J J J J (ht:=fun h=>?_) (hf:=fun h=>?_)<;>try exact prn)|(refine A2 J J J J J (ht:=fun h=>?_) (hf:=fun h=>?_)<;>try exact prn)|refine Ag J J J J J ?_|(refine Al J (ht:=fun h=>?_) (hf:=fun h=>?_)<;>try exact prn)|refine Au ?_|refine Aq ?_|refine Ar ?_|refine A3 ?_|refine Aj Ab J J J J J J J (Ac Z) J ?_|refine Ae Ab J J J J J J J Z (Ac Z) J ?_|refine Ah Ab J J J J J J J J J J J J J (by simp[Ad];omega) ?_|refine Af Ab J J J J J J J J J J J J J J (by simp[Ad];omega) ?_|refine A8 Ab J J J J J (fun _=>rfl) (fun b hb=>?_)|refine AD (id:=5) (m:=12) Ab U J J J J ?_|refine As J J J J ?_|refine A4 ?_|(refine A5 J J J J J (ht:=fun h=>?_) (hf:=fun h=>?_)<;>try exact prn)|(refine A6 J J J J J (ht:=fun h=>?_) (hf:=fun h=>?_)<;>try exact prn)|refine Ai J J J J J ?_|refine An J J J J J J J (Ac Z) J ?_|refine Ao J J J J J J J Z (Ac Z) J ?_|refine A7 Ab J J J J J J J (cm) J J ?_|refine A7 Ab J J J J J J J (cr) J J ?_|refine Ao J J J J J J J hki (Ac hkl) J ?_|refine Bv J J J J J (ct) J J ?_|refine A7 Ab J J J J J J J (ct) J J ?_)
   all_goals first|(first|exact AC J (Sub.of_eq J)|exact AC J F7)|(exfalso;omega)
end Go.Proofs.YthjoclecnacdiaaGreatDoor
