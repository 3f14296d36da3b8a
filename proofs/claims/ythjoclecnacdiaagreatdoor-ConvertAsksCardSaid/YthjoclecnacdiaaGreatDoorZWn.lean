/- Contracts of the program and of references: what is told, by tables. -/
import Derived.Test.YthjoclecnacdiaaGreatDoorZM9
import Derived.Test.YthjoclecnacdiaaGreatDoorZM10
import Derived.Test.YthjoclecnacdiaaGreatDoorZM11
import Derived.Test.YthjoclecnacdiaaGreatDoorZWmm
import Derived.Test.YthjoclecnacdiaaGreatDoorZWl
import Derived.Test.YthjoclecnacdiaaGreatDoorZM12
set_option linter.unusedVariables false
set_option linter.unusedSimpArgs false
namespace Go.Proofs.YthjoclecnacdiaaGreatDoor
open Go.Am
attribute [local irreducible] Decidable.decide
set_option maxRecDepth 100000
set_option maxHeartbeats 1000000
theorem MC (r:Reply) (i:Int) (l:List Table) (h:Bt r=false∨Bq l=false∨i<0∨3≤i):Ch r i l=2∧BT r i l=C4 0 0:=by
 have e:Ch r i l=2:=if_pos h
 exact⟨e,by unfold BT;rw[e];rfl⟩
theorem Ki (r:Reply) (i:Int) (l:List Table) (h: ¬(Bt r=false∨Bq l=false∨i<0∨3≤i)) (hk:r.e≠0∨ ¬(r.kind=2∨r.kind=5∨r.kind=7)):Ch r i l=0∧BT r i l=r:=by
 have e:Ch r i l=0:=by unfold Ch;rw[if_neg h,if_pos hk]
 exact⟨e,by unfold BT;rw[e,if_neg Y,if_pos hk]⟩
theorem MB (r:Reply) (i:Int) (l:List Table) (h: ¬(Bt r=false∨Bq l=false∨i<0∨3≤i)) (hk: ¬(r.e≠0∨ ¬(r.kind=2∨r.kind=5∨r.kind=7))):
  (toE (Cs l i) r.offset≠0→Ch r i l=toE (Cs l i) r.offset∧BT r i l=C4 0 0)∧
  (toE (Cs l i) r.offset=0→B6 (Cs l i) r.rows≠0→Ch r i l=B6 (Cs l i) r.rows∧BT r i l=C4 0 0)∧
  (toE (Cs l i) r.offset=0→B6 (Cs l i) r.rows=0→Ch r i l=0∧BT r i l={r with offset:=toN (Cs l i) r.offset,rows:=r.rows.map (Bn (Cs l i))}):=by
 have e:Ch r i l=if toE (Cs l i) r.offset≠0 then toE (Cs l i) r.offset else B6 (Cs l i) r.rows:=by unfold Ch;rw[if_neg h,if_neg hk]
 refine⟨fun h1=>?_,fun h1 h2=>?_,fun h1 h2=>?_⟩
 ·rw[if_pos h1]at e;exact⟨e,by unfold BT;rw[e,if_pos h1]⟩
 ·rw[if_neg (by simp[h1])]at e;exact⟨e,by unfold BT;rw[e,if_pos h2]⟩
 ·rw[if_neg (by simp[h1]),h2]at e;exact⟨e,by unfold BT;rw[e,if_neg Y,if_neg hk]⟩
theorem I5 (t:Table): ∀(a b:List Row),B6 t (a++b)=if B6 t a≠0 then B6 t a else B6 t b
 |[],b=>by simp[B6]
 |w::a,b=>by
  simp only[List.cons_append,B6]
  by_cases h:toE t w.offset=0
  ·simp[h,I5 t a b]
  ·simp[h]
theorem DK {t:Table} {l:List Row} {i:Nat} {w:Row} (h0:B6 t (l.take i)=0) (hw:l[i]?=some w) (h:toE t w.offset≠0):B6 t l=toE t w.offset:=by
 have hd:l=l.take i++(w::l.drop (i+1)):=by
  obtain⟨hlt,rfl⟩:=List.getElem?_eq_some_iff.1 hw
  rw[←List.drop_eq_getElem_cons hlt,List.take_append_drop]
 rw[hd,I5,h0];simp[B6,h]
theorem F1 {t:Table} {l:List Row} {i:Nat} {w:Row} (h0:B6 t (l.take i)=0) (hw:l[i]?=some w) (h:toE t w.offset=0):B6 t (l.take (i+1))=0:=by
 rw[BK hw,I5,h0];simp[B6,h]
theorem FC {r:Reply} (h:Bt r=true):r=B7 r∧CI r=true:=by
 simp only[Bt,Bool.and_eq_true,decide_eq_true_eq]at h;exact h.2
theorem HS {r:Reply} (h:Bt r=true) (hne:r.rows≠[]):r.e=0∧r.kind=5:=by
 have hb:=(FC h).1
 have hr:r.rows=(B7 r).rows:=congrArg Reply.rows hb
 by_cases he:r.e=0
 ·refine⟨he,Classical.byContradiction fun hk=>hne ?_⟩
  rw[hr];unfold B7 C4
  rw[if_neg O]
  repeat' split
  all_goals(first|rfl|omega)
 ·exfalso;apply hne;rw[hr];unfold B7;rw[if_pos he];rfl
theorem Jc {r:Reply} (h:Bt r=true) (he:r.e=0) (hk:r.kind=2∨r.kind=5∨r.kind=7): -1≤r.offset∧r.offset≤1048576:=by
 have hg:=(FC h).2
 simp only[CI]at hg
 rw[if_neg O,if_neg O]at hg
 by_cases h5:r.kind=5
 ·rw[if_neg O,if_pos h5]at hg
  simp at hg;omega
 ·rw[if_pos O]at hg
  simp at hg;omega
theorem EJ {r:Reply} (h:Bt r=true) {i:Nat} {w:Row} (hw:r.rows[i]?=some w): -1≤w.offset∧w.offset≤1048576:=by
 have hne:r.rows≠[]:=fun e=>by rw[e]at hw;simp at hw
 obtain⟨he,hk⟩:=HS h hne
 have hg:=(FC h).2
 simp only[CI]at hg
 rw[if_neg O,if_neg O,if_neg O,if_pos hk,Bool.and_eq_true]at hg
 have:=List.all_eq_true.1 hg.2 w (List.mem_of_getElem? hw)
 simp[CE]at this;omega
theorem UW (r:Reply) (i:Int) (l:List Table) (t:Table) (k:Nat) (hq:r.rows.length≤1000000) (hi:0≤i∧i≤2) (hki:i=(k:Int)) (hkl:l[k]?=some t) (hts:t.new.length≤1000000000) (h1:Bt r=true) (hk: ¬(r.e≠0∨ ¬(r.kind=2∨r.kind=5∨r.kind=7))) (h0:toE t r.offset=0)
  (f2:toE t r.offset=0→B6 t r.rows≠0→Ch r i l=B6 t r.rows∧BT r i l=C4 0 0) (f3:toE t r.offset=0→B6 t r.rows=0→Ch r i l=0∧BT r i l={r with offset:=toN t r.offset,rows:=r.rows.map (Bn t)})
  (cm:Ct Tryz.prog 25 [.agg (AA (AH r))] [] (.t (.bool true)) []) (cr:Ct Tryz.prog 19 [.t (.slice .any 3 (l.map AN))] [] (.t (.bool true)) [])
  (ct:Ct Tryz.prog 21 [.agg (AA (AN t)),.t (.int .i64 r.offset)] [] (.tuple [.t (.int .i64 (toN t r.offset)),.t (.int .i64 0)]) []) (hne:r.rows=[]):Ct Tryz.prog 10 [.agg (AA (AH r)),.t (.int .i64 i),.t (.slice .any 3 (l.map AN))] [] (.tuple [.agg (AA (AH (BT r i l))),.t (.int .i64 (Ch r i l))]) []:=by
 have hlm:(l.map AN).length=l.length:=List.length_map ..
 obtain⟨e1,e2⟩:=f3 h0 (by rw[hne];rfl)
 rw[e1,e2]
 rw[show({r with offset:=toN t r.offset,rows:=r.rows.map (Bn t)}:Reply)={r with offset:=toN t r.offset,rows:=[]}by rw[hne];rfl]
 have cz:=QT r hne
 have e:AH r=[.int .i8 r.kind,.int .i64 r.e,.int .i64 r.pid,.int .i64 r.epoch,.int .i64 r.offset,.slice .any 5 []]:=by simp[AH,hne]
 rw[e]at cm cz⊢
 refine ct0 Ab Tryz.func10 J false J J ?_
 repeat'(first|refine Ak Ab J J J J J ?_|refine Ap Ab J J J ?_|refine A0 ?_|refine A9 ?_|refine Aw Ab J J ?_|(refine A1 J J J J J (ht:=fun h=>?_) (hf:=fun h=>?_)<;>try exact prn)|(refine A2 J J J J J (ht:=fun h=>?_) (hf:=fun h=>?_)<;>try exact prn)|refine Ag J J J J J ?_|(refine Al J (ht:=fun h=>?_) (hf:=fun h=>?_)<;>try exact prn)|refine Au ?_|refine Aq ?_|refine Ar ?_|refine A3 ?_|refine Aj Ab J J J J J J J (Ac Z) J ?_|refine Ae Ab J J J J J J J Z (Ac Z) J ?_|refine Ah Ab J J J J J J J J J J J J J (by simp[Ad];omega) ?_|refine Af Ab J J J J J J J J J J J J J J (by simp[Ad];omega) ?_|refine A8 Ab J J J J J (fun _=>rfl) (fun b hb=>?_)|refine AD (id:=10) (m:=11) Ab U J J J J ?_|refine AD (id:=17) (m:=15) Ab U J J J J ?_|refine As J J J J ?_|refine A4 ?_|(refine A5 J J J J J (ht:=fun h=>?_) (hf:=fun h=>?_)<;>try exact prn)|(refine A6 J J J J J (ht:=fun h=>?_) (hf:=fun h=>?_)<;>try exact prn)|refine Ai J J J J J ?_|refine An J J J J J J J (Ac Z) J ?_|refine Ao J J J J J J J Z (Ac Z) J ?_|refine A7 Ab J J J J J J J (cm) J J ?_|refine A7 Ab J J J J J J J (cr) J J ?_|refine A7 Ab J J J J J J J (cz) J J ?_|refine Ao J J J J J J J hki (Ac hkl) J ?_|refine Bv J J J J J (ct) J J ?_|refine A7 Ab J J J J J J J (ct) J J ?_)
 all_goals try(exfalso;omega)
 all_goals
  refine EW 1 ?_
  refine Gh ?_
  repeat'(first|refine Ak Ab J J J J J ?_|refine Ap Ab J J J ?_|refine A0 ?_|refine A9 ?_|refine Aw Ab J J ?_|(refine A1 J J J J J (ht:=fun h=>?_) (hf:=fun h=>?_)<;>try exact prn)|(refine A2 J J J J J (ht:=fun h=>?_) (hf:=fun h=>?_)<;>try exact prn)|refine Ag J J J J J ?_|(refine Al J (ht:=fun h=>?_) (hf:=fun h=>?_)<;>try exact prn)|refine Au ?_|refine Aq ?_|refine Ar ?_|refine A3 ?_|refine Aj Ab J J J J J J J (Ac Z) J ?_|refine Ae Ab J J J J J J J Z (Ac Z) J ?_|refine Ah Ab J J J J J J J J J J J J J (by simp[Ad];omega) ?_|refine Af Ab J J J J J J J J J J J J J J (by simp[Ad];omega) ?_|refine A8 Ab J J J J J (fun _=>rfl) (fun b hb=>?_)|refine AD (id:=10) (m:=11) Ab U J J J J ?_|refine AD (id:=17) (m:=15) Ab U J J J J ?_|refine As J J J J ?_|refine A4 ?_|(refine A5 J J J J J (ht:=fun h=>?_) (hf:=fun h=>?_)<;>try exact prn)|(refine A6 J J J J J (ht:=fun h=>?_) (hf:=fun h=>?_)<;>try exact prn)|refine Ai J J J J J ?_|refine An J J J J J J J (Ac Z) J ?_|refine Ao J J J J J J J Z (Ac Z) J ?_)
  all_goals first|exact AC J (Sub.of_eq J)|(exfalso;exact absurd (by assumption:(0:Int)<(([]:List (List T)).length:Int)) Y)
set_option maxHeartbeats 4000000 in
theorem UX (r:Reply) (i:Int) (l:List Table) (t:Table) (k:Nat) (hq:r.rows.length≤1000000) (hi:0≤i∧i≤2) (hki:i=(k:Int)) (hkl:l[k]?=some t) (hts:t.new.length≤1000000000) (h1:Bt r=true) (hk: ¬(r.e≠0∨ ¬(r.kind=2∨r.kind=5∨r.kind=7))) (h0:toE t r.offset=0)
  (f2:toE t r.offset=0→B6 t r.rows≠0→Ch r i l=B6 t r.rows∧BT r i l=C4 0 0) (f3:toE t r.offset=0→B6 t r.rows=0→Ch r i l=0∧BT r i l={r with offset:=toN t r.offset,rows:=r.rows.map (Bn t)})
  (cm:Ct Tryz.prog 25 [.agg (AA (AH r))] [] (.t (.bool true)) []) (cr:Ct Tryz.prog 19 [.t (.slice .any 3 (l.map AN))] [] (.t (.bool true)) [])
  (ct:Ct Tryz.prog 21 [.agg (AA (AN t)),.t (.int .i64 r.offset)] [] (.tuple [.t (.int .i64 (toN t r.offset)),.t (.int .i64 0)]) []) (hne:r.rows≠[]):Ct Tryz.prog 10 [.agg (AA (AH r)),.t (.int .i64 i),.t (.slice .any 3 (l.map AN))] [] (.tuple [.agg (AA (AH (BT r i l))),.t (.int .i64 (Ch r i l))]) []:=by
 have hlm:(l.map AN).length=l.length:=List.length_map ..
 obtain⟨hre,hrk⟩:=HS h1 hne
 have cn:=QS r hne hq
 have hrm:(r.rows.map AK).length=r.rows.length:=List.length_map ..
 refine ct0 Ab Tryz.func10 J false J J ?_
 repeat'(first|refine Ak Ab J J J J J ?_|refine Ap Ab J J J ?_|refine A0 ?_|refine A9 ?_|refine Aw Ab J J ?_|(refine A1 J J J J J (ht:=fun h=>?_) (hf:=fun h=>?_)<;>try exact prn)|(refine A2 J J J J J (ht:=fun h=>?_) (hf:=fun h=>?_)<;>try exact prn)|refine Ag J J J J J ?_|(refine Al J (ht:=fun h=>?_) (hf:=fun h=>?_)<;>try exact prn)|refine Au ?_|refine Aq ?_|refine Ar ?_|refine A3 ?_|refine Aj Ab J J J J J J J (Ac Z) J ?_|refine Ae Ab J J J J J J J Z (Ac Z) J ?_|refine Ah Ab J J J J J J J J J J J J J (by simp[Ad];omega) ?_|refine Af Ab J J J J J J J J J J J J J J (by simp[Ad];omega) ?_|refine A8 Ab J J J J J (fun _=>rfl) (fun b hb=>?_)|refine AD (id:=10) (m:=11) Ab U J J J J ?_|refine AD (id:=17) (m:=15) Ab U J J J J ?_|refine As J J J J ?_|refine A4 ?_|(refine A5 J J J J J (ht:=fun h=>?_) (hf:=fun h=>?_)<;>try exact prn)|(refine A6 J J J J J (ht:=fun h=>?_) (hf:=fun h=>?_)<;>try exact prn)|refine Ai J J J J J ?_|refine An J J J J J J J (Ac Z) J ?_|refine Ao J J J J J J J Z (Ac Z) J ?_|refine A7 Ab J J J J J J J (cm) J J ?_|refine A7 Ab J J J J J J J (cr) J J ?_|refine AR Ab [] [(24,64)] J J J J J cn J J J J J ?_|refine Ao J J J J J J J hki (Ac hkl) J ?_|refine Bv J J J J J (ct) J J ?_|refine A7 Ab J J J J J J J (ct) J J ?_)
 all_goals try(exfalso;omega)
 refine BC (ι:=Nat) (fun j=>j≤r.rows.length∧B6 t (r.rows.take j)=0) (fun j=>[(1,.t (.int .i64 i)),(2,.t (.slice .any 3 (l.map AN))),(6,.ref 12 0),(8,.ref 16 0),(61,.t (.int .i64 (r.rows.length:Int))),(62,.t (.int .i64 j))])
  (fun j=>[(16,.cells [.t (.int .i8 r.kind),.t (.int .i64 r.e),.t (.int .i64 r.pid),.t (.int .i64 r.epoch),.t (.int .i64 (toN t r.offset)),.row 64 5 0 r.rows.length]),(64,.grow 5 (((r.rows.take j).map (Bn t)++r.rows.drop j).map AK)),(12,.cells (AA Sl.zero))]) (fun j=>r.rows.length-j) 0 ⟨by simp,by simp[B6]⟩ ?_ ?_
 ·exact Ce [3] (Av J J (Av J J (Av J J (Av J J (Av J J (Av J J AJ)))))) J
 rintro j ⟨hj,hf⟩
 by_cases hlt:j<r.rows.length
 ·have hr:r.rows[j]?=some r.rows[j]:=List.getElem?_eq_getElem hlt
  generalize r.rows[j]=w at hr
  have hwo:=EJ h1 hr
  have cw:=Qm t w.offset hts O
  have hd:r.rows.drop j=w::r.rows.drop (j+1):=by obtain⟨h3,rfl⟩:=List.getElem?_eq_some_iff.1 hr;exact List.drop_eq_getElem_cons h3
  have hl1:((r.rows.take j).map (Bn t)).length=j:=by simp;omega
  have hg:(((r.rows.take j).map (Bn t)++r.rows.drop j).map AK)[0+j]?=some (AK w):=by
   rw[hd,Nat.zero_add,List.getElem?_map,List.getElem?_append_right O,hl1,Nat.sub_self];rfl
  by_cases hz:toE t w.offset=0
  ·rw[hz]at cw
   repeat'(first|refine Ak Ab J J J J J ?_|refine Ap Ab J J J ?_|refine A0 ?_|refine A9 ?_|refine Aw Ab J J ?_|(refine A1 J J J J J (ht:=fun h=>?_) (hf:=fun h=>?_)<;>try exact prn)|(refine A2 J J J J J (ht:=fun h=>?_) (hf:=fun h=>?_)<;>try exact prn)|refine Ag J J J J J ?_|(refine Al J (ht:=fun h=>?_) (hf:=fun h=>?_)<;>try exact prn)|refine Au ?_|refine Aq ?_|refine Ar ?_|refine A3 ?_|refine Aj Ab J J J J J J J (Ac Z) J ?_|refine Ae Ab J J J J J J J Z (Ac Z) J ?_|refine Ah Ab J J J J J J J J J J J J J (by simp[Ad];omega) ?_|refine Af Ab J J J J J J J J J J J J J J (by simp[Ad];omega) ?_|refine A8 Ab J J J J J (fun _=>rfl) (fun b hb=>?_)|refine AD (id:=10) (m:=11) Ab U J J J J ?_|refine AD (id:=17) (m:=15) Ab U J J J J ?_|refine As J J J J ?_|refine A4 ?_|(refine A5 J J J J J (ht:=fun h=>?_) (hf:=fun h=>?_)<;>try exact prn)|(refine A6 J J J J J (ht:=fun h=>?_) (hf:=fun h=>?_)<;>try exact prn)|refine Ai J J J J J ?_|refine An J J J J J J J (Ac Z) J ?_|refine Ao J J J J J J J Z (Ac Z) J ?_|refine Ao J J J J J J J hki (Ac hkl) J ?_|refine O7 (kc:=j) J J J J J J J J hlt J ?_|refine RA J J J J J J hg J J J ?_|refine Ca Ab (kc:=j) J J J J J J J J hlt J ?_|refine KT Ab (ts:=[.int .i64 (toN t w.offset)]) J J J J J J J J J J hg J J ?_|refine Bv J J J J J (cw) J J ?_|refine A7 Ab J J J J J J J (cw) J J ?_)
   refine BB (j+1) ⟨hlt,F1 hf hr hz⟩ O [] (Av J J (Av J J (Av J J (Av J J (Av J J (Av J (by rw[AW O O];rfl) AJ)))))) ?_
   have hset:(((r.rows.take (j+1)).map (Bn t)++r.rows.drop (j+1)).map AK)=(((r.rows.take j).map (Bn t)++r.rows.drop j).map AK).set j (AK (Bn t w)):=by
    rw[hd,←List.map_set,List.set_append_right _ _ O,hl1,Nat.sub_self,List.set_cons_zero,BK hr];simp
   rw[hset];simp only[Nat.zero_add];rfl
  ·obtain⟨e1,e2⟩:=f2 h0 (by rw[DK hf hr hz];exact hz)
   rw[e1,e2,DK hf hr hz]
   repeat'(first|refine Ak Ab J J J J J ?_|refine Ap Ab J J J ?_|refine A0 ?_|refine A9 ?_|refine Aw Ab J J ?_|(refine A1 J J J J J (ht:=fun h=>?_) (hf:=fun h=>?_)<;>try exact prn)|(refine A2 J J J J J (ht:=fun h=>?_) (hf:=fun h=>?_)<;>try exact prn)|refine Ag J J J J J ?_|(refine Al J (ht:=fun h=>?_) (hf:=fun h=>?_)<;>try exact prn)|refine Au ?_|refine Aq ?_|refine Ar ?_|refine A3 ?_|refine Aj Ab J J J J J J J (Ac Z) J ?_|refine Ae Ab J J J J J J J Z (Ac Z) J ?_|refine Ah Ab J J J J J J J J J J J J J (by simp[Ad];omega) ?_|refine Af Ab J J J J J J J J J J J J J J (by simp[Ad];omega) ?_|refine A8 Ab J J J J J (fun _=>rfl) (fun b hb=>?_)|refine AD (id:=10) (m:=11) Ab U J J J J ?_|refine AD (id:=17) (m:=15) Ab U J J J J ?_|refine As J J J J ?_|refine A4 ?_|(refine A5 J J J J J (ht:=fun h=>?_) (hf:=fun h=>?_)<;>try exact prn)|(refine A6 J J J J J (ht:=fun h=>?_) (hf:=fun h=>?_)<;>try exact prn)|refine Ai J J J J J ?_|refine An J J J J J J J (Ac Z) J ?_|refine Ao J J J J J J J Z (Ac Z) J ?_|refine Ao J J J J J J J hki (Ac hkl) J ?_|refine O7 (kc:=j) J J J J J J J J hlt J ?_|refine RA J J J J J J hg J J J ?_|refine Bv J J J J J (cw) J J ?_|refine A7 Ab J J J J J J J (cw) J J ?_)
   exact AC J (BL ⟨BM ⟨Sub.refl _,Sub.refl _,Sub.refl _,Sub.refl _,Sub.refl _,AY,trivial⟩,Sub.refl _,trivial⟩)
 ·have hjl:j=r.rows.length:=by omega
  subst hjl
  rw[List.take_length]at hf
  obtain⟨e1,e2⟩:=f3 h0 hf
  rw[e1,e2]
  rw[show((r.rows.take r.rows.length).map (Bn t)++r.rows.drop r.rows.length)=r.rows.map (Bn t)by simp]
  repeat'(first|refine Ak Ab J J J J J ?_|refine Ap Ab J J J ?_|refine A0 ?_|refine A9 ?_|refine Aw Ab J J ?_|(refine A1 J J J J J (ht:=fun h=>?_) (hf:=fun h=>?_)<;>try exact prn)|(refine A2 J J J J J (ht:=fun h=>?_) (hf:=fun h=>?_)<;>try exact prn)|refine Ag J J J J J ?_|(refine Al J (ht:=fun h=>?_) (hf:=fun h=>?_)<;>try exact prn)|refine Au ?_|refine Aq ?_|refine Ar ?_|refine A3 ?_|refine Aj Ab J J J J J J J (Ac Z) J ?_|refine Ae Ab J J J J J J J Z (Ac Z) J ?_|refine Ah Ab J J J J J J J J J J J J J (by simp[Ad];omega) ?_|refine Af Ab J J J J J J J J J J J J J J (by simp[Ad];omega) ?_|refine A8 Ab J J J J J (fun _=>rfl) (fun b hb=>?_)|refine AD (id:=10) (m:=11) Ab U J J J J ?_|refine AD (id:=17) (m:=15) Ab U J J J J ?_|refine As J J J J ?_|refine A4 ?_|(refine A5 J J J J J (ht:=fun h=>?_) (hf:=fun h=>?_)<;>try exact prn)|(refine A6 J J J J J (ht:=fun h=>?_) (hf:=fun h=>?_)<;>try exact prn)|refine Ai J J J J J ?_|refine An J J J J J J J (Ac Z) J ?_|refine Ao J J J J J J J Z (Ac Z) J ?_)
  refine AC J (Sub.of_eq ?_)
  have ht:(((r.rows.map (Bn t)).map AK).take r.rows.length)=(r.rows.map (Bn t)).map AK:=List.take_of_length_le Y
  simp[D1,E8,ht,AH,AA]
  exact List.take_of_length_le Y
theorem Ty (r:Reply) (i:Int) (l:List Table) (hq:r.rows.length≤1000000) (hl:II l):Ct Tryz.prog 10 [.agg (AA (AH r)),.t (.int .i64 i),.t (.slice .any 3 (l.map AN))] [] (.tuple [.agg (AA (AH (BT r i l))),.t (.int .i64 (Ch r i l))]) []:=by
 have hlm:(l.map AN).length=l.length:=List.length_map ..
 have cm:=TC r hq
 have cr:=OD l (Nat.le_trans hl.1 Aa) hl.2
 have cf:=SW r hq
 by_cases hb:Bt r=false∨Bq l=false∨i<0∨3≤i
 ·obtain⟨e1,e2⟩:=MC r i l hb
  rw[e1,e2]
  cases h1:Bt r with
  |false=>
   rw[h1]at cm
   refine ct0 Ab Tryz.func10 J false J J ?_
   repeat'(first|refine Ak Ab J J J J J ?_|refine Ap Ab J J J ?_|refine A0 ?_|refine A9 ?_|refine Aw Ab J J ?_|(refine A1 J J J J J (ht:=fun h=>?_) (hf:=fun h=>?_)<;>try exact prn)|(refine A2 J J J J J (ht:=fun h=>?_) (hf:=fun h=>?_)<;>try exact prn)|refine Ag J J J J J ?_|(refine Al J (ht:=fun h=>?_) (hf:=fun h=>?_)<;>try exact prn)|refine Au ?_|refine Aq ?_|refine Ar ?_|refine A3 ?_|refine Aj Ab J J J J J J J (Ac Z) J ?_|refine Ae Ab J J J J J J J Z (Ac Z) J ?_|refine Ah Ab J J J J J J J J J J J J J (by simp[Ad];omega) ?_|refine Af Ab J J J J J J J J J J J J J J (by simp[Ad];omega) ?_|refine A8 Ab J J J J J (fun _=>rfl) (fun b hb=>?_)|refine AD (id:=10) (m:=11) Ab U J J J J ?_|refine AD (id:=17) (m:=15) Ab U J J J J ?_|refine As J J J J ?_|refine A4 ?_|(refine A5 J J J J J (ht:=fun h=>?_) (hf:=fun h=>?_)<;>try exact prn)|(refine A6 J J J J J (ht:=fun h=>?_) (hf:=fun h=>?_)<;>try exact prn)|refine Ai J J J J J ?_|refine An J J J J J J J (Ac Z) J ?_|refine Ao J J J J J J J Z (Ac Z) J ?_|refine A7 Ab J J J J J J J (cm) J J ?_)
   exact AC J (BL ⟨BM ⟨Sub.refl _,Sub.refl _,Sub.refl _,Sub.refl _,Sub.refl _,AY,trivial⟩,Sub.refl _,trivial⟩)
  |true=>
   rw[h1]at cm
   cases h2:Bq l with
   |false=>
    rw[h2]at cr
    refine ct0 Ab Tryz.func10 J false J J ?_
    repeat'(first|refine Ak Ab J J J J J ?_|refine Ap Ab J J J ?_|refine A0 ?_|refine A9 ?_|refine Aw Ab J J ?_|(refine A1 J J J J J (ht:=fun h=>?_) (hf:=fun h=>?_)<;>try exact prn)|(refine A2 J J J J J (ht:=fun h=>?_) (hf:=fun h=>?_)<;>try exact prn)|refine Ag J J J J J ?_|(refine Al J (ht:=fun h=>?_) (hf:=fun h=>?_)<;>try exact prn)|refine Au ?_|refine Aq ?_|refine Ar ?_|refine A3 ?_|refine Aj Ab J J J J J J J (Ac Z) J ?_|refine Ae Ab J J J J J J J Z (Ac Z) J ?_|refine Ah Ab J J J J J J J J J J J J J (by simp[Ad];omega) ?_|refine Af Ab J J J J J J J J J J J J J J (by simp[Ad];omega) ?_|refine A8 Ab J J J J J (fun _=>rfl) (fun b hb=>?_)|refine AD (id:=10) (m:=11) Ab U J J J J ?_|refine AD (id:=17) (m:=15) Ab U J J J J ?_|refine As J J J J ?_|refine A4 ?_|(refine A5 J J J J J (ht:=fun h=>?_) (hf:=fun h=>?_)<;>try exact prn)|(refine A6 J J J J J (ht:=fun h=>?_) (hf:=fun h=>?_)<;>try exact prn)|refine Ai J J J J J ?_|refine An J J J J J J J (Ac Z) J ?_|refine Ao J J J J J J J Z (Ac Z) J ?_|refine A7 Ab J J J J J J J (cm) J J ?_|refine A7 Ab J J J J J J J (cr) J J ?_)
    exact AC J (BL ⟨BM ⟨Sub.refl _,Sub.refl _,Sub.refl _,Sub.refl _,Sub.refl _,AY,trivial⟩,Sub.refl _,trivial⟩)
   |true=>
    rw[h2]at cr
    have hi:i<0∨3≤i:=by rcases hb with h|h|h|h<;>simp_all
    refine ct0 Ab Tryz.func10 J false J J ?_
    repeat'(first|refine Ak Ab J J J J J ?_|refine Ap Ab J J J ?_|refine A0 ?_|refine A9 ?_|refine Aw Ab J J ?_|(refine A1 J J J J J (ht:=fun h=>?_) (hf:=fun h=>?_)<;>try exact prn)|(refine A2 J J J J J (ht:=fun h=>?_) (hf:=fun h=>?_)<;>try exact prn)|refine Ag J J J J J ?_|(refine Al J (ht:=fun h=>?_) (hf:=fun h=>?_)<;>try exact prn)|refine Au ?_|refine Aq ?_|refine Ar ?_|refine A3 ?_|refine Aj Ab J J J J J J J (Ac Z) J ?_|refine Ae Ab J J J J J J J Z (Ac Z) J ?_|refine Ah Ab J J J J J J J J J J J J J (by simp[Ad];omega) ?_|refine Af Ab J J J J J J J J J J J J J J (by simp[Ad];omega) ?_|refine A8 Ab J J J J J (fun _=>rfl) (fun b hb=>?_)|refine AD (id:=10) (m:=11) Ab U J J J J ?_|refine AD (id:=17) (m:=15) Ab U J J J J ?_|refine As J J J J ?_|refine A4 ?_|(refine A5 J J J J J (ht:=fun h=>?_) (hf:=fun h=>?_)<;>try exact prn)|(refine A6 J J J J J (ht:=fun h=>?_) (hf:=fun h=>?_)<;>try exact prn)|refine Ai J J J J J ?_|refine An J J J J J J J (Ac Z) J ?_|refine Ao J J J J J J J Z (Ac Z) J ?_|refine A7 Ab J J J J J J J (cm) J J ?_|refine A7 Ab J J J J J J J (cr) J J ?_)
    all_goals first|(exfalso;omega)|exact AC J (BL ⟨BM ⟨Sub.refl _,Sub.refl _,Sub.refl _,Sub.refl _,Sub.refl _,AY,trivial⟩,Sub.refl _,trivial⟩)
 have h1:Bt r=true:=by cases h:Bt r<;>simp_all
 have h2:Bq l=true:=by cases h:Bq l<;>simp_all
 have hi:0≤i∧i≤2:=by omega
 rw[h1]at cm;rw[h2]at cr
 by_cases hk:r.e≠0∨ ¬(r.kind=2∨r.kind=5∨r.kind=7)
 ·obtain⟨e1,e2⟩:=Ki r i l hb hk
  rw[e1,e2]
  refine ct0 Ab Tryz.func10 J false J J ?_
  repeat'(first|refine Ak Ab J J J J J ?_|refine Ap Ab J J J ?_|refine A0 ?_|refine A9 ?_|refine Aw Ab J J ?_|(refine A1 J J J J J (ht:=fun h=>?_) (hf:=fun h=>?_)<;>try exact prn)|(refine A2 J J J J J (ht:=fun h=>?_) (hf:=fun h=>?_)<;>try exact prn)|refine Ag J J J J J ?_|(refine Al J (ht:=fun h=>?_) (hf:=fun h=>?_)<;>try exact prn)|refine Au ?_|refine Aq ?_|refine Ar ?_|refine A3 ?_|refine Aj Ab J J J J J J J (Ac Z) J ?_|refine Ae Ab J J J J J J J Z (Ac Z) J ?_|refine Ah Ab J J J J J J J J J J J J J (by simp[Ad];omega) ?_|refine Af Ab J J J J J J J J J J J J J J (by simp[Ad];omega) ?_|refine A8 Ab J J J J J (fun _=>rfl) (fun b hb=>?_)|refine AD (id:=10) (m:=11) Ab U J J J J ?_|refine AD (id:=17) (m:=15) Ab U J J J J ?_|refine As J J J J ?_|refine A4 ?_|(refine A5 J J J J J (ht:=fun h=>?_) (hf:=fun h=>?_)<;>try exact prn)|(refine A6 J J J J J (ht:=fun h=>?_) (hf:=fun h=>?_)<;>try exact prn)|refine Ai J J J J J ?_|refine An J J J J J J J (Ac Z) J ?_|refine Ao J J J J J J J Z (Ac Z) J ?_|refine A7 Ab J J J J J J J (cm) J J ?_|refine A7 Ab J J J J J J J (cr) J J ?_|refine A7 Ab J J J J J J J (cf) J J ?_)
  all_goals first|(exfalso;omega)|exact AC J (Sub.of_eq J)
 obtain⟨f1,f2,f3⟩:=MB r i l hb hk
 obtain⟨k,hki,hkl⟩:=KH (EG h2) hi
 have hts:=hl.2 _ (List.mem_of_getElem? hkl)
 have ho:=Jc h1 O O
 have ct:=Qm (Cs l i) r.offset hts O
 generalize Cs l i=t at*
 by_cases h0:toE t r.offset=0
 ·rw[h0]at ct
  by_cases hne:r.rows=[]
  ·exact UW r i l t k hq hi hki hkl hts h1 hk h0 f2 f3 cm cr ct hne
  ·exact UX r i l t k hq hi hki hkl hts h1 hk h0 f2 f3 cm cr ct hne
 ·obtain⟨e1,e2⟩:=f1 h0
  rw[e1,e2]
  refine ct0 Ab Tryz.func10 J false J J ?_
  repeat'(first|refine Ak Ab J J J J J ?_|refine Ap Ab J J J ?_|refine A0 ?_|refine A9 ?_|refine Aw Ab J J ?_|(refine A1 J J J J J (ht:=fun h=>?_) (hf:=fun h=>?_)<;>try exact prn)|(refine A2 J J J J J (ht:=fun h=>?_) (hf:=fun h=>?_)<;>try exact prn)|refine Ag J J J J J ?_|(refine Al J (ht:=fun h=>?_) (hf:=fun h=>?_)<;>try exact prn)|refine Au ?_|refine Aq ?_|refine Ar ?_|refine A3 ?_|refine Aj Ab J J J J J J J (Ac Z) J ?_|refine Ae Ab J J J J J J J Z (Ac Z) J ?_|refine Ah Ab J J J J J J J J J J J J J (by simp[Ad];omega) ?_|refine Af Ab J J J J J J J J J J J J J J (by simp[Ad];omega) ?_|refine A8 Ab J J J J J (fun _=>rfl) (fun b hb=>?_)|refine AD (id:=10) (m:=11) Ab U J J J J ?_|refine AD (id:=17) (m:=15) Ab U J J J J ?_|refine As J J J J ?_|refine A4 ?_|(refine A5 J J J J J (ht:=fun h=>?_) (hf:=fun h=>?_)<;>try exact prn)|(refine A6 J J J J J (ht:=fun h=>?_) (hf:=fun h=>?_)<;>try exact prn)|refine Ai J J J J J ?_|refine An J J J J J J J (Ac Z) J ?_|refine Ao J J J J J J J Z (Ac Z) J ?_|refine A7 Ab J J J J J J J (cm) J J ?_|refine A7 Ab J J J J J J J (cr) J J ?_|refine A7 Ab J J J J J J J (cf) J J ?_|refine Ao J J J J J J J hki (Ac hkl) J ?_|refine Bv J J J J J (ct) J J ?_|refine A7 Ab J J J J J J J (ct) J J ?_)
  all_goals first|(exfalso;omega)|exact AC J (BL ⟨BM ⟨Sub.refl _,Sub.refl _,Sub.refl _,Sub.refl _,Sub.refl _,AY,trivial⟩,Sub.refl _,trivial⟩)
set_option maxHeartbeats 4000000 in
theorem T9 (r:Reply) (i:Int) (l:List Table) (t:Table) (k:Nat) (hq:r.rows.length≤1000000) (hi:0≤i∧i≤2) (hki:i=(k:Int)) (hkl:l[k]?=some t) (hts:t.new.length≤1000000000) (h1:Bt r=true) (hke:r.e=0) (h0:toE t r.offset=0)
  (f2:toE t r.offset=0→B6 t r.rows≠0→Ch r i l=B6 t r.rows∧BT r i l=C4 0 0) (f3:toE t r.offset=0→B6 t r.rows=0→Ch r i l=0∧BT r i l={r with offset:=toN t r.offset,rows:=r.rows.map (Bn t)})
  (cm:Ct Tryz.prog 27 [.agg (AA (AH r))] [] (.t (.bool true)) []) (cr:Ct Tryz.prog 23 [.t (.slice .any 3 (l.map AN))] [] (.t (.bool true)) [])
  (ct:Ct Tryz.prog 24 [.agg (AA (AN t)),.t (.int .i64 r.offset)] [] (.tuple [.t (.int .i64 (toN t r.offset)),.t (.int .i64 0)]) []) (hkk:r.kind=2):Ct Tryz.prog 11 [.agg (AA (AH r)),.t (.int .i64 i),.t (.slice .any 3 (l.map AN))] [] (.tuple [.agg (AA (AH (BT r i l))),.t (.int .i64 (Ch r i l))]) []:=by
 have hlm:(l.map AN).length=l.length:=List.length_map ..
 have hrm:(r.rows.map AK).length=r.rows.length:=List.length_map ..
 refine ct0 Ab Tryz.func11 J false J J ?_
 repeat'(first|refine Ak Ab J J J J J ?_|refine Ap Ab J J J ?_|refine A0 ?_|refine A9 ?_|refine Aw Ab J J ?_|(refine A1 J J J J J (ht:=fun h=>?_) (hf:=fun h=>?_)<;>try exact prn)|(refine A2 J J J J J (ht:=fun h=>?_) (hf:=fun h=>?_)<;>try exact prn)|refine Ag J J J J J ?_|(refine Al J (ht:=fun h=>?_) (hf:=fun h=>?_)<;>try exact prn)|refine Au ?_|refine Aq ?_|refine Ar ?_|refine A3 ?_|refine Aj Ab J J J J J J J (Ac Z) J ?_|refine Ae Ab J J J J J J J Z (Ac Z) J ?_|refine Ah Ab J J J J J J J J J J J J J (by simp[Ad];omega) ?_|refine Af Ab J J J J J J J J J J J J J J (by simp[Ad];omega) ?_|refine A8 Ab J J J J J (fun _=>rfl) (fun b hb=>?_)|refine AD (id:=5) (m:=11) Ab U J J J J ?_|refine AD (id:=14) (m:=12) Ab U J J J J ?_|refine As J J J J ?_|refine A4 ?_|(refine A5 J J J J J (ht:=fun h=>?_) (hf:=fun h=>?_)<;>try exact prn)|(refine A6 J J J J J (ht:=fun h=>?_) (hf:=fun h=>?_)<;>try exact prn)|refine Ai J J J J J ?_|refine An J J J J J J J (Ac Z) J ?_|refine Ao J J J J J J J Z (Ac Z) J ?_|refine A7 Ab J J J J J J J (cm) J J ?_|refine A7 Ab J J J J J J J (cr) J J ?_|refine Ao J J J J J J J hki (Ac hkl) J ?_|refine Bv J J J J J (ct) J J ?_|refine A7 Ab J J J J J J J (ct) J J ?_)
 all_goals try(exfalso;omega)
 refine Tr.nilRow 10 95 5 J J ?_
 refine BC (ι:=Nat) (fun j=>j≤r.rows.length∧B6 t (r.rows.take j)=0) (fun j=>[(1,.t (.int .i64 i)),(2,.t (.slice .any 3 (l.map AN))),(3,.ref 6 0),(6,.ref 12 0),(10,.row 190 5 0 (((r.rows.take j).map (Bn t)).map AK).length),(11,.t (.int .i64 j))])
  (fun j=>[(190,.grow 5 (((r.rows.take j).map (Bn t)).map AK)),(12,.cells (AA Sl.zero)),(6,.cells (AA (AH {r with offset:=toN t r.offset})))]) (fun j=>r.rows.length-j) 0 ⟨by simp,by simp[B6]⟩ ?_ ?_
 ·exact Ce [] (Av J J (Av J J (Av J J (Av J J (Av J J (Av J J AJ)))))) J
 rintro j ⟨hj,hf⟩
 by_cases hlt:j<r.rows.length
 ·have hr:r.rows[j]?=some r.rows[j]:=List.getElem?_eq_getElem hlt
  generalize r.rows[j]=w at hr
  have hwo:=EJ h1 hr
  have cw:=IR t w.offset hts O
  by_cases hz:toE t w.offset=0
  ·rw[hz]at cw
   repeat'(first|refine Ak Ab J J J J J ?_|refine Ap Ab J J J ?_|refine A0 ?_|refine A9 ?_|refine Aw Ab J J ?_|(refine A1 J J J J J (ht:=fun h=>?_) (hf:=fun h=>?_)<;>try exact prn)|(refine A2 J J J J J (ht:=fun h=>?_) (hf:=fun h=>?_)<;>try exact prn)|refine Ag J J J J J ?_|(refine Al J (ht:=fun h=>?_) (hf:=fun h=>?_)<;>try exact prn)|refine Au ?_|refine Aq ?_|refine Ar ?_|refine A3 ?_|refine Aj Ab J J J J J J J (Ac Z) J ?_|refine Ae Ab J J J J J J J Z (Ac Z) J ?_|refine Ah Ab J J J J J J J J J J J J J (by simp[Ad];omega) ?_|refine Af Ab J J J J J J J J J J J J J J (by simp[Ad];omega) ?_|refine A8 Ab J J J J J (fun _=>rfl) (fun b hb=>?_)|refine AD (id:=5) (m:=11) Ab U J J J J ?_|refine As J J J J ?_|refine A4 ?_|(refine A5 J J J J J (ht:=fun h=>?_) (hf:=fun h=>?_)<;>try exact prn)|(refine A6 J J J J J (ht:=fun h=>?_) (hf:=fun h=>?_)<;>try exact prn)|refine Ai J J J J J ?_|refine An J J J J J J J (Ac Z) J ?_|refine Ao J J J J J J J Z (Ac Z) J ?_|refine Ic (id:=14) (m:=12) (ms:=[0,0,3,7,0,16,63,127,255,255,511,1535,4095]) Ab [(11,24)] U J J J J U U ?_|refine Ao J J J J J J J hki (Ac hkl) J ?_|refine Bv J J J J J (cw) J J ?_|refine A7 Ab J J J J J J J (cw) J J ?_|refine Ht J J J J J J J J J J J ?_|refine M7 J J ?_|refine M8 ?_)
   refine BB (j+1) ⟨hlt,F1 hf hr hz⟩ O [12] (Av J J (Av J J (Av J J (Av J J (Av J ?_ (Av J (by rw[AW O O];rfl) AJ)))))) ?_
   all_goals
    have ht:((r.rows.take (j+1)).map (Bn t)).map AK=((r.rows.take j).map (Bn t)).map AK++[AK (Bn t w)]:=by rw[BK hr];simp
    rw[ht];first|rfl|(simp;rfl)
  ·obtain⟨e1,e2⟩:=f2 h0 (by rw[DK hf hr hz];exact hz)
   rw[e1,e2,DK hf hr hz]
   repeat'(first|refine Ak Ab J J J J J ?_|refine Ap Ab J J J ?_|refine A0 ?_|refine A9 ?_|refine Aw Ab J J ?_|(refine A1 J J J J J (ht:=fun h=>?_) (hf:=fun h=>?_)<;>try exact prn)|(refine A2 J J J J J (ht:=fun h=>?_) (hf:=fun h=>?_)<;>try exact prn)|refine Ag J J J J J ?_|(refine Al J (ht:=fun h=>?_) (hf:=fun h=>?_)<;>try exact prn)|refine Au ?_|refine Aq ?_|refine Ar ?_|refine A3 ?_|refine Aj Ab J J J J J J J (Ac Z) J ?_|refine Ae Ab J J J J J J J Z (Ac Z) J ?_|refine Ah Ab J J J J J J J J J J J J J (by simp[Ad];omega) ?_|refine Af Ab J J J J J J J J J J J J J J (by simp[Ad];omega) ?_|refine A8 Ab J J J J J (fun _=>rfl) (fun b hb=>?_)|refine AD (id:=5) (m:=11) Ab U J J J J ?_|refine As J J J J ?_|refine A4 ?_|(refine A5 J J J J J (ht:=fun h=>?_) (hf:=fun h=>?_)<;>try exact prn)|(refine A6 J J J J J (ht:=fun h=>?_) (hf:=fun h=>?_)<;>try exact prn)|refine Ai J J J J J ?_|refine An J J J J J J J (Ac Z) J ?_|refine Ao J J J J J J J Z (Ac Z) J ?_|refine Ic (id:=14) (m:=12) (ms:=[0,0,3,7,0,16,63,127,255,255,511,1535,4095]) Ab [(11,24)] U J J J J U U ?_|refine Ao J J J J J J J hki (Ac hkl) J ?_|refine Bv J J J J J (cw) J J ?_|refine A7 Ab J J J J J J J (cw) J J ?_|refine Ht J J J J J J J J J J J ?_|refine M7 J J ?_|refine M8 ?_)
   exact AC J (BL ⟨BM ⟨Sub.refl _,Sub.refl _,Sub.refl _,Sub.refl _,Sub.refl _,AY,trivial⟩,Sub.refl _,trivial⟩)
 ·have hjl:j=r.rows.length:=by omega
  subst hjl
  rw[List.take_length]at hf⊢
  obtain⟨e1,e2⟩:=f3 h0 hf
  rw[e1,e2]
  repeat'(first|refine Ak Ab J J J J J ?_|refine Ap Ab J J J ?_|refine A0 ?_|refine A9 ?_|refine Aw Ab J J ?_|(refine A1 J J J J J (ht:=fun h=>?_) (hf:=fun h=>?_)<;>try exact prn)|(refine A2 J J J J J (ht:=fun h=>?_) (hf:=fun h=>?_)<;>try exact prn)|refine Ag J J J J J ?_|(refine Al J (ht:=fun h=>?_) (hf:=fun h=>?_)<;>try exact prn)|refine Au ?_|refine Aq ?_|refine Ar ?_|refine A3 ?_|refine Aj Ab J J J J J J J (Ac Z) J ?_|refine Ae Ab J J J J J J J Z (Ac Z) J ?_|refine Ah Ab J J J J J J J J J J J J J (by simp[Ad];omega) ?_|refine Af Ab J J J J J J J J J J J J J J (by simp[Ad];omega) ?_|refine A8 Ab J J J J J (fun _=>rfl) (fun b hb=>?_)|refine AD (id:=5) (m:=11) Ab U J J J J ?_|refine AD (id:=14) (m:=12) Ab U J J J J ?_|refine As J J J J ?_|refine A4 ?_|(refine A5 J J J J J (ht:=fun h=>?_) (hf:=fun h=>?_)<;>try exact prn)|(refine A6 J J J J J (ht:=fun h=>?_) (hf:=fun h=>?_)<;>try exact prn)|refine Ai J J J J J ?_|refine An J J J J J J J (Ac Z) J ?_|refine Ao J J J J J J J Z (Ac Z) J ?_)
  refine AC J (Sub.of_eq ?_)
  have ht:(((r.rows.map (Bn t)).map AK).take ((r.rows.map (Bn t)).map AK).length)=(r.rows.map (Bn t)).map AK:=List.take_length ..
  simp[D1,E8,ht,AH,AA]
  exact List.take_of_length_le Y
set_option maxHeartbeats 4000000 in
theorem T8 (r:Reply) (i:Int) (l:List Table) (t:Table) (k:Nat) (hq:r.rows.length≤1000000) (hi:0≤i∧i≤2) (hki:i=(k:Int)) (hkl:l[k]?=some t) (hts:t.new.length≤1000000000) (h1:Bt r=true) (hke:r.e=0) (h0:toE t r.offset=0)
  (f2:toE t r.offset=0→B6 t r.rows≠0→Ch r i l=B6 t r.rows∧BT r i l=C4 0 0) (f3:toE t r.offset=0→B6 t r.rows=0→Ch r i l=0∧BT r i l={r with offset:=toN t r.offset,rows:=r.rows.map (Bn t)})
  (cm:Ct Tryz.prog 27 [.agg (AA (AH r))] [] (.t (.bool true)) []) (cr:Ct Tryz.prog 23 [.t (.slice .any 3 (l.map AN))] [] (.t (.bool true)) [])
  (ct:Ct Tryz.prog 24 [.agg (AA (AN t)),.t (.int .i64 r.offset)] [] (.tuple [.t (.int .i64 (toN t r.offset)),.t (.int .i64 0)]) []) (hkk:r.kind=5):Ct Tryz.prog 11 [.agg (AA (AH r)),.t (.int .i64 i),.t (.slice .any 3 (l.map AN))] [] (.tuple [.agg (AA (AH (BT r i l))),.t (.int .i64 (Ch r i l))]) []:=by
 have hlm:(l.map AN).length=l.length:=List.length_map ..
 have hrm:(r.rows.map AK).length=r.rows.length:=List.length_map ..
 refine ct0 Ab Tryz.func11 J false J J ?_
 repeat'(first|refine Ak Ab J J J J J ?_|refine Ap Ab J J J ?_|refine A0 ?_|refine A9 ?_|refine Aw Ab J J ?_|(refine A1 J J J J J (ht:=fun h=>?_) (hf:=fun h=>?_)<;>try exact prn)|(refine A2 J J J J J (ht:=fun h=>?_) (hf:=fun h=>?_)<;>try exact prn)|refine Ag J J J J J ?_|(refine Al J (ht:=fun h=>?_) (hf:=fun h=>?_)<;>try exact prn)|refine Au ?_|refine Aq ?_|refine Ar ?_|refine A3 ?_|refine Aj Ab J J J J J J J (Ac Z) J ?_|refine Ae Ab J J J J J J J Z (Ac Z) J ?_|refine Ah Ab J J J J J J J J J J J J J (by simp[Ad];omega) ?_|refine Af Ab J J J J J J J J J J J J J J (by simp[Ad];omega) ?_|refine A8 Ab J J J J J (fun _=>rfl) (fun b hb=>?_)|refine AD (id:=5) (m:=11) Ab U J J J J ?_|refine AD (id:=14) (m:=12) Ab U J J J J ?_|refine As J J J J ?_|refine A4 ?_|(refine A5 J J J J J (ht:=fun h=>?_) (hf:=fun h=>?_)<;>try exact prn)|(refine A6 J J J J J (ht:=fun h=>?_) (hf:=fun h=>?_)<;>try exact prn)|refine Ai J J J J J ?_|refine An J J J J J J J (Ac Z) J ?_|refine Ao J J J J J J J Z (Ac Z) J ?_|refine A7 Ab J J J J J J J (cm) J J ?_|refine A7 Ab J J J J J J J (cr) J J ?_|refine Ao J J J J J J J hki (Ac hkl) J ?_|refine Bv J J J J J (ct) J J ?_|refine A7 Ab J J J J J J J (ct) J J ?_)
 all_goals try(exfalso;omega)
 refine Tr.nilRow 10 95 5 J J ?_
 refine BC (ι:=Nat) (fun j=>j≤r.rows.length∧B6 t (r.rows.take j)=0) (fun j=>[(1,.t (.int .i64 i)),(2,.t (.slice .any 3 (l.map AN))),(3,.ref 6 0),(6,.ref 12 0),(10,.row 190 5 0 (((r.rows.take j).map (Bn t)).map AK).length),(11,.t (.int .i64 j))])
  (fun j=>[(190,.grow 5 (((r.rows.take j).map (Bn t)).map AK)),(12,.cells (AA Sl.zero)),(6,.cells (AA (AH {r with offset:=toN t r.offset})))]) (fun j=>r.rows.length-j) 0 ⟨by simp,by simp[B6]⟩ ?_ ?_
 ·exact Ce [] (Av J J (Av J J (Av J J (Av J J (Av J J (Av J J AJ)))))) J
 rintro j ⟨hj,hf⟩
 by_cases hlt:j<r.rows.length
 ·have hr:r.rows[j]?=some r.rows[j]:=List.getElem?_eq_getElem hlt
  generalize r.rows[j]=w at hr
  have hwo:=EJ h1 hr
  have cw:=IR t w.offset hts O
  by_cases hz:toE t w.offset=0
  ·rw[hz]at cw
   repeat'(first|refine Ak Ab J J J J J ?_|refine Ap Ab J J J ?_|refine A0 ?_|refine A9 ?_|refine Aw Ab J J ?_|(refine A1 J J J J J (ht:=fun h=>?_) (hf:=fun h=>?_)<;>try exact prn)|(refine A2 J J J J J (ht:=fun h=>?_) (hf:=fun h=>?_)<;>try exact prn)|refine Ag J J J J J ?_|(refine Al J (ht:=fun h=>?_) (hf:=fun h=>?_)<;>try exact prn)|refine Au ?_|refine Aq ?_|refine Ar ?_|refine A3 ?_|refine Aj Ab J J J J J J J (Ac Z) J ?_|refine Ae Ab J J J J J J J Z (Ac Z) J ?_|refine Ah Ab J J J J J J J J J J J J J (by simp[Ad];omega) ?_|refine Af Ab J J J J J J J J J J J J J J (by simp[Ad];omega) ?_|refine A8 Ab J J J J J (fun _=>rfl) (fun b hb=>?_)|refine AD (id:=5) (m:=11) Ab U J J J J ?_|refine As J J J J ?_|refine A4 ?_|(refine A5 J J J J J (ht:=fun h=>?_) (hf:=fun h=>?_)<;>try exact prn)|(refine A6 J J J J J (ht:=fun h=>?_) (hf:=fun h=>?_)<;>try exact prn)|refine Ai J J J J J ?_|refine An J J J J J J J (Ac Z) J ?_|refine Ao J J J J J J J Z (Ac Z) J ?_|refine Ic (id:=14) (m:=12) (ms:=[0,0,3,7,0,16,63,127,255,255,511,1535,4095]) Ab [(11,24)] U J J J J U U ?_|refine Ao J J J J J J J hki (Ac hkl) J ?_|refine Bv J J J J J (cw) J J ?_|refine A7 Ab J J J J J J J (cw) J J ?_|refine Ht J J J J J J J J J J J ?_|refine M7 J J ?_|refine M8 ?_)
   refine BB (j+1) ⟨hlt,F1 hf hr hz⟩ O [12] (Av J J (Av J J (Av J J (Av J J (Av J ?_ (Av J (by rw[AW O O];rfl) AJ)))))) ?_
   all_goals
    have ht:((r.rows.take (j+1)).map (Bn t)).map AK=((r.rows.take j).map (Bn t)).map AK++[AK (Bn t w)]:=by rw[BK hr];simp
    rw[ht];first|rfl|(simp;rfl)
  ·obtain⟨e1,e2⟩:=f2 h0 (by rw[DK hf hr hz];exact hz)
   rw[e1,e2,DK hf hr hz]
   repeat'(first|refine Ak Ab J J J J J ?_|refine Ap Ab J J J ?_|refine A0 ?_|refine A9 ?_|refine Aw Ab J J ?_|(refine A1 J J J J J (ht:=fun h=>?_) (hf:=fun h=>?_)<;>try exact prn)|(refine A2 J J J J J (ht:=fun h=>?_) (hf:=fun h=>?_)<;>try exact prn)|refine Ag J J J J J ?_|(refine Al J (ht:=fun h=>?_) (hf:=fun h=>?_)<;>try exact prn)|refine Au ?_|refine Aq ?_|refine Ar ?_|refine A3 ?_|refine Aj Ab J J J J J J J (Ac Z) J ?_|refine Ae Ab J J J J J J J Z (Ac Z) J ?_|refine Ah Ab J J J J J J J J J J J J J (by simp[Ad];omega) ?_|refine Af Ab J J J J J J J J J J J J J J (by simp[Ad];omega) ?_|refine A8 Ab J J J J J (fun _=>rfl) (fun b hb=>?_)|refine AD (id:=5) (m:=11) Ab U J J J J ?_|refine As J J J J ?_|refine A4 ?_|(refine A5 J J J J J (ht:=fun h=>?_) (hf:=fun h=>?_)<;>try exact prn)|(refine A6 J J J J J (ht:=fun h=>?_) (hf:=fun h=>?_)<;>try exact prn)|refine Ai J J J J J ?_|refine An J J J J J J J (Ac Z) J ?_|refine Ao J J J J J J J Z (Ac Z) J ?_|refine Ic (id:=14) (m:=12) (ms:=[0,0,3,7,0,16,63,127,255,255,511,1535,4095]) Ab [(11,24)] U J J J J U U ?_|refine Ao J J J J J J J hki (Ac hkl) J ?_|refine Bv J J J J J (cw) J J ?_|refine A7 Ab J J J J J J J (cw) J J ?_|refine Ht J J J J J J J J J J J ?_|refine M7 J J ?_|refine M8 ?_)
   exact AC J (BL ⟨BM ⟨Sub.refl _,Sub.refl _,Sub.refl _,Sub.refl _,Sub.refl _,AY,trivial⟩,Sub.refl _,trivial⟩)
 ·have hjl:j=r.rows.length:=by omega
  subst hjl
  rw[List.take_length]at hf⊢
  obtain⟨e1,e2⟩:=f3 h0 hf
  rw[e1,e2]
  repeat'(first|refine Ak Ab J J J J J ?_|refine Ap Ab J J J ?_|refine A0 ?_|refine A9 ?_|refine Aw Ab J J ?_|(refine A1 J J J J J (ht:=fun h=>?_) (hf:=fun h=>?_)<;>try exact prn)|(refine A2 J J J J J (ht:=fun h=>?_) (hf:=fun h=>?_)<;>try exact prn)|refine Ag J J J J J ?_|(refine Al J (ht:=fun h=>?_) (hf:=fun h=>?_)<;>try exact prn)|refine Au ?_|refine Aq ?_|refine Ar ?_|refine A3 ?_|refine Aj Ab J J J J J J J (Ac Z) J ?_|refine Ae Ab J J J J J J J Z (Ac Z) J ?_|refine Ah Ab J J J J J J J J J J J J J (by simp[Ad];omega) ?_|refine Af Ab J J J J J J J J J J J J J J (by simp[Ad];omega) ?_|refine A8 Ab J J J J J (fun _=>rfl) (fun b hb=>?_)|refine AD (id:=5) (m:=11) Ab U J J J J ?_|refine AD (id:=14) (m:=12) Ab U J J J J ?_|refine As J J J J ?_|refine A4 ?_|(refine A5 J J J J J (ht:=fun h=>?_) (hf:=fun h=>?_)<;>try exact prn)|(refine A6 J J J J J (ht:=fun h=>?_) (hf:=fun h=>?_)<;>try exact prn)|refine Ai J J J J J ?_|refine An J J J J J J J (Ac Z) J ?_|refine Ao J J J J J J J Z (Ac Z) J ?_)
  refine AC J (Sub.of_eq ?_)
  have ht:(((r.rows.map (Bn t)).map AK).take ((r.rows.map (Bn t)).map AK).length)=(r.rows.map (Bn t)).map AK:=List.take_length ..
  simp[D1,E8,ht,AH,AA]
  exact List.take_of_length_le Y
set_option maxHeartbeats 4000000 in
theorem T7 (r:Reply) (i:Int) (l:List Table) (t:Table) (k:Nat) (hq:r.rows.length≤1000000) (hi:0≤i∧i≤2) (hki:i=(k:Int)) (hkl:l[k]?=some t) (hts:t.new.length≤1000000000) (h1:Bt r=true) (hke:r.e=0) (h0:toE t r.offset=0)
  (f2:toE t r.offset=0→B6 t r.rows≠0→Ch r i l=B6 t r.rows∧BT r i l=C4 0 0) (f3:toE t r.offset=0→B6 t r.rows=0→Ch r i l=0∧BT r i l={r with offset:=toN t r.offset,rows:=r.rows.map (Bn t)})
  (cm:Ct Tryz.prog 27 [.agg (AA (AH r))] [] (.t (.bool true)) []) (cr:Ct Tryz.prog 23 [.t (.slice .any 3 (l.map AN))] [] (.t (.bool true)) [])
  (ct:Ct Tryz.prog 24 [.agg (AA (AN t)),.t (.int .i64 r.offset)] [] (.tuple [.t (.int .i64 (toN t r.offset)),.t (.int .i64 0)]) []) (hkk:r.kind=7):Ct Tryz.prog 11 [.agg (AA (AH r)),.t (.int .i64 i),.t (.slice .any 3 (l.map AN))] [] (.tuple [.agg (AA (AH (BT r i l))),.t (.int .i64 (Ch r i l))]) []:=by
 have hlm:(l.map AN).length=l.length:=List.length_map ..
 have hrm:(r.rows.map AK).length=r.rows.length:=List.length_map ..
 refine ct0 Ab Tryz.func11 J false J J ?_
 repeat'(first|refine Ak Ab J J J J J ?_|refine Ap Ab J J J ?_|refine A0 ?_|refine A9 ?_|refine Aw Ab J J ?_|(refine A1 J J J J J (ht:=fun h=>?_) (hf:=fun h=>?_)<;>try exact prn)|(refine A2 J J J J J (ht:=fun h=>?_) (hf:=fun h=>?_)<;>try exact prn)|refine Ag J J J J J ?_|(refine Al J (ht:=fun h=>?_) (hf:=fun h=>?_)<;>try exact prn)|refine Au ?_|refine Aq ?_|refine Ar ?_|refine A3 ?_|refine Aj Ab J J J J J J J (Ac Z) J ?_|refine Ae Ab J J J J J J J Z (Ac Z) J ?_|refine Ah Ab J J J J J J J J J J J J J (by simp[Ad];omega) ?_|refine Af Ab J J J J J J J J J J J J J J (by simp[Ad];omega) ?_|refine A8 Ab J J J J J (fun _=>rfl) (fun b hb=>?_)|refine AD (id:=5) (m:=11) Ab U J J J J ?_|refine AD (id:=14) (m:=12) Ab U J J J J ?_|refine As J J J J ?_|refine A4 ?_|(refine A5 J J J J J (ht:=fun h=>?_) (hf:=fun h=>?_)<;>try exact prn)|(refine A6 J J J J J (ht:=fun h=>?_) (hf:=fun h=>?_)<;>try exact prn)|refine Ai J J J J J ?_|refine An J J J J J J J (Ac Z) J ?_|refine Ao J J J J J J J Z (Ac Z) J ?_|refine A7 Ab J J J J J J J (cm) J J ?_|refine A7 Ab J J J J J J J (cr) J J ?_|refine Ao J J J J J J J hki (Ac hkl) J ?_|refine Bv J J J J J (ct) J J ?_|refine A7 Ab J J J J J J J (ct) J J ?_)
 all_goals try(exfalso;omega)
 refine Tr.nilRow 10 95 5 J J ?_
 refine BC (ι:=Nat) (fun j=>j≤r.rows.length∧B6 t (r.rows.take j)=0) (fun j=>[(1,.t (.int .i64 i)),(2,.t (.slice .any 3 (l.map AN))),(3,.ref 6 0),(6,.ref 12 0),(10,.row 190 5 0 (((r.rows.take j).map (Bn t)).map AK).length),(11,.t (.int .i64 j))])
  (fun j=>[(190,.grow 5 (((r.rows.take j).map (Bn t)).map AK)),(12,.cells (AA Sl.zero)),(6,.cells (AA (AH {r with offset:=toN t r.offset})))]) (fun j=>r.rows.length-j) 0 ⟨by simp,by simp[B6]⟩ ?_ ?_
 ·exact Ce [] (Av J J (Av J J (Av J J (Av J J (Av J J (Av J J AJ)))))) J
 rintro j ⟨hj,hf⟩
 by_cases hlt:j<r.rows.length
 ·have hr:r.rows[j]?=some r.rows[j]:=List.getElem?_eq_getElem hlt
  generalize r.rows[j]=w at hr
  have hwo:=EJ h1 hr
  have cw:=IR t w.offset hts O
  by_cases hz:toE t w.offset=0
  ·rw[hz]at cw
   repeat'(first|refine Ak Ab J J J J J ?_|refine Ap Ab J J J ?_|refine A0 ?_|refine A9 ?_|refine Aw Ab J J ?_|(refine A1 J J J J J (ht:=fun h=>?_) (hf:=fun h=>?_)<;>try exact prn)|(refine A2 J J J J J (ht:=fun h=>?_) (hf:=fun h=>?_)<;>try exact prn)|refine Ag J J J J J ?_|(refine Al J (ht:=fun h=>?_) (hf:=fun h=>?_)<;>try exact prn)|refine Au ?_|refine Aq ?_|refine Ar ?_|refine A3 ?_|refine Aj Ab J J J J J J J (Ac Z) J ?_|refine Ae Ab J J J J J J J Z (Ac Z) J ?_|refine Ah Ab J J J J J J J J J J J J J (by simp[Ad];omega) ?_|refine Af Ab J J J J J J J J J J J J J J (by simp[Ad];omega) ?_|refine A8 Ab J J J J J (fun _=>rfl) (fun b hb=>?_)|refine AD (id:=5) (m:=11) Ab U J J J J ?_|refine As J J J J ?_|refine A4 ?_|(refine A5 J J J J J (ht:=fun h=>?_) (hf:=fun h=>?_)<;>try exact prn)|(refine A6 J J J J J (ht:=fun h=>?_) (hf:=fun h=>?_)<;>try exact prn)|refine Ai J J J J J ?_|refine An J J J J J J J (Ac Z) J ?_|refine Ao J J J J J J J Z (Ac Z) J ?_|refine Ic (id:=14) (m:=12) (ms:=[0,0,3,7,0,16,63,127,255,255,511,1535,4095]) Ab [(11,24)] U J J J J U U ?_|refine Ao J J J J J J J hki (Ac hkl) J ?_|refine Bv J J J J J (cw) J J ?_|refine A7 Ab J J J J J J J (cw) J J ?_|refine Ht J J J J J J J J J J J ?_|refine M7 J J ?_|refine M8 ?_)
   refine BB (j+1) ⟨hlt,F1 hf hr hz⟩ O [12] (Av J J (Av J J (Av J J (Av J J (Av J ?_ (Av J (by rw[AW O O];rfl) AJ)))))) ?_
   all_goals
    have ht:((r.rows.take (j+1)).map (Bn t)).map AK=((r.rows.take j).map (Bn t)).map AK++[AK (Bn t w)]:=by rw[BK hr];simp
    rw[ht];first|rfl|(simp;rfl)
  ·obtain⟨e1,e2⟩:=f2 h0 (by rw[DK hf hr hz];exact hz)
   rw[e1,e2,DK hf hr hz]
   repeat'(first|refine Ak Ab J J J J J ?_|refine Ap Ab J J J ?_|refine A0 ?_|refine A9 ?_|refine Aw Ab J J ?_|(refine A1 J J J J J (ht:=fun h=>?_) (hf:=fun h=>?_)<;>try exact prn)|(refine A2 J J J J J (ht:=fun h=>?_) (hf:=fun h=>?_)<;>try exact prn)|refine Ag J J J J J ?_|(refine Al J (ht:=fun h=>?_) (hf:=fun h=>?_)<;>try exact prn)|refine Au ?_|refine Aq ?_|refine Ar ?_|refine A3 ?_|refine Aj Ab J J J J J J J (Ac Z) J ?_|refine Ae Ab J J J J J J J Z (Ac Z) J ?_|refine Ah Ab J J J J J J J J J J J J J (by simp[Ad];omega) ?_|refine Af Ab J J J J J J J J J J J J J J (by simp[Ad];omega) ?_|refine A8 Ab J J J J J (fun _=>rfl) (fun b hb=>?_)|refine AD (id:=5) (m:=11) Ab U J J J J ?_|refine As J J J J ?_|refine A4 ?_|(refine A5 J J J J J (ht:=fun h=>?_) (hf:=fun h=>?_)<;>try exact prn)|(refine A6 J J J J J (ht:=fun h=>?_) (hf:=fun h=>?_)<;>try exact prn)|refine Ai J J J J J ?_|refine An J J J J J J J (Ac Z) J ?_|refine Ao J J J J J J J Z (Ac Z) J ?_|refine Ic (id:=14) (m:=12) (ms:=[0,0,3,7,0,16,63,127,255,255,511,1535,4095]) Ab [(11,24)] U J J J J U U ?_|refine Ao J J J J J J J hki (Ac hkl) J ?_|refine Bv J J J J J (cw) J J ?_|refine A7 Ab J J J J J J J (cw) J J ?_|refine Ht J J J J J J J J J J J ?_|refine M7 J J ?_|refine M8 ?_)
   exact AC J (BL ⟨BM ⟨Sub.refl _,Sub.refl _,Sub.refl _,Sub.refl _,Sub.refl _,AY,trivial⟩,Sub.refl _,trivial⟩)
 ·have hjl:j=r.rows.length:=by omega
  subst hjl
  rw[List.take_length]at hf⊢
  obtain⟨e1,e2⟩:=f3 h0 hf
  rw[e1,e2]
  repeat'(first|refine Ak Ab J J J J J ?_|refine Ap Ab J J J ?_|refine A0 ?_|refine A9 ?_|refine Aw Ab J J ?_|(refine A1 J J J J J (ht:=fun h=>?_) (hf:=fun h=>?_)<;>try exact prn)|(refine A2 J J J J J (ht:=fun h=>?_) (hf:=fun h=>?_)<;>try exact prn)|refine Ag J J J J J ?_|(refine Al J (ht:=fun h=>?_) (hf:=fun h=>?_)<;>try exact prn)|refine Au ?_|refine Aq ?_|refine Ar ?_|refine A3 ?_|refine Aj Ab J J J J J J J (Ac Z) J ?_|refine Ae Ab J J J J J J J Z (Ac Z) J ?_|refine Ah Ab J J J J J J J J J J J J J (by simp[Ad];omega) ?_|refine Af Ab J J J J J J J J J J J J J J (by simp[Ad];omega) ?_|refine A8 Ab J J J J J (fun _=>rfl) (fun b hb=>?_)|refine AD (id:=5) (m:=11) Ab U J J J J ?_|refine AD (id:=14) (m:=12) Ab U J J J J ?_|refine As J J J J ?_|refine A4 ?_|(refine A5 J J J J J (ht:=fun h=>?_) (hf:=fun h=>?_)<;>try exact prn)|(refine A6 J J J J J (ht:=fun h=>?_) (hf:=fun h=>?_)<;>try exact prn)|refine Ai J J J J J ?_|refine An J J J J J J J (Ac Z) J ?_|refine Ao J J J J J J J Z (Ac Z) J ?_)
  refine AC J (Sub.of_eq ?_)
  have ht:(((r.rows.map (Bn t)).map AK).take ((r.rows.map (Bn t)).map AK).length)=(r.rows.map (Bn t)).map AK:=List.take_length ..
  simp[D1,E8,ht,AH,AA]
  exact List.take_of_length_le Y
theorem Sy (r:Reply) (i:Int) (l:List Table) (hq:r.rows.length≤1000000) (hl:II l):Ct Tryz.prog 11 [.agg (AA (AH r)),.t (.int .i64 i),.t (.slice .any 3 (l.map AN))] [] (.tuple [.agg (AA (AH (BT r i l))),.t (.int .i64 (Ch r i l))]) []:=by
 have hlm:(l.map AN).length=l.length:=List.length_map ..
 have cm:=V9 r hq
 have cr:=Lp l (Nat.le_trans hl.1 Aa) hl.2
 by_cases hb:Bt r=false∨Bq l=false∨i<0∨3≤i
 ·obtain⟨e1,e2⟩:=MC r i l hb
  rw[e1,e2]
  cases h1:Bt r with
  |false=>
   rw[h1]at cm
   refine ct0 Ab Tryz.func11 J false J J ?_
   repeat'(first|refine Ak Ab J J J J J ?_|refine Ap Ab J J J ?_|refine A0 ?_|refine A9 ?_|refine Aw Ab J J ?_|(refine A1 J J J J J (ht:=fun h=>?_) (hf:=fun h=>?_)<;>try exact prn)|(refine A2 J J J J J (ht:=fun h=>?_) (hf:=fun h=>?_)<;>try exact prn)|refine Ag J J J J J ?_|(refine Al J (ht:=fun h=>?_) (hf:=fun h=>?_)<;>try exact prn)|refine Au ?_|refine Aq ?_|refine Ar ?_|refine A3 ?_|refine Aj Ab J J J J J J J (Ac Z) J ?_|refine Ae Ab J J J J J J J Z (Ac Z) J ?_|refine Ah Ab J J J J J J J J J J J J J (by simp[Ad];omega) ?_|refine Af Ab J J J J J J J J J J J J J J (by simp[Ad];omega) ?_|refine A8 Ab J J J J J (fun _=>rfl) (fun b hb=>?_)|refine AD (id:=5) (m:=11) Ab U J J J J ?_|refine AD (id:=14) (m:=12) Ab U J J J J ?_|refine As J J J J ?_|refine A4 ?_|(refine A5 J J J J J (ht:=fun h=>?_) (hf:=fun h=>?_)<;>try exact prn)|(refine A6 J J J J J (ht:=fun h=>?_) (hf:=fun h=>?_)<;>try exact prn)|refine Ai J J J J J ?_|refine An J J J J J J J (Ac Z) J ?_|refine Ao J J J J J J J Z (Ac Z) J ?_|refine A7 Ab J J J J J J J (cm) J J ?_)
   exact AC J (BL ⟨BM ⟨Sub.refl _,Sub.refl _,Sub.refl _,Sub.refl _,Sub.refl _,AY,trivial⟩,Sub.refl _,trivial⟩)
  |true=>
   rw[h1]at cm
   cases h2:Bq l with
   |false=>
    rw[h2]at cr
    refine ct0 Ab Tryz.func11 J false J J ?_
    repeat'(first|refine Ak Ab J J J J J ?_|refine Ap Ab J J J ?_|refine A0 ?_|refine A9 ?_|refine Aw Ab J J ?_|(refine A1 J J J J J (ht:=fun h=>?_) (hf:=fun h=>?_)<;>try exact prn)|(refine A2 J J J J J (ht:=fun h=>?_) (hf:=fun h=>?_)<;>try exact prn)|refine Ag J J J J J ?_|(refine Al J (ht:=fun h=>?_) (hf:=fun h=>?_)<;>try exact prn)|refine Au ?_|refine Aq ?_|refine Ar ?_|refine A3 ?_|refine Aj Ab J J J J J J J (Ac Z) J ?_|refine Ae Ab J J J J J J J Z (Ac Z) J ?_|refine Ah Ab J J J J J J J J J J J J J (by simp[Ad];omega) ?_|refine Af Ab J J J J J J J J J J J J J J (by simp[Ad];omega) ?_|refine A8 Ab J J J J J (fun _=>rfl) (fun b hb=>?_)|refine AD (id:=5) (m:=11) Ab U J J J J ?_|refine AD (id:=14) (m:=12) Ab U J J J J ?_|refine As J J J J ?_|refine A4 ?_|(refine A5 J J J J J (ht:=fun h=>?_) (hf:=fun h=>?_)<;>try exact prn)|(refine A6 J J J J J (ht:=fun h=>?_) (hf:=fun h=>?_)<;>try exact prn)|refine Ai J J J J J ?_|refine An J J J J J J J (Ac Z) J ?_|refine Ao J J J J J J J Z (Ac Z) J ?_|refine A7 Ab J J J J J J J (cm) J J ?_|refine A7 Ab J J J J J J J (cr) J J ?_)
    exact AC J (BL ⟨BM ⟨Sub.refl _,Sub.refl _,Sub.refl _,Sub.refl _,Sub.refl _,AY,trivial⟩,Sub.refl _,trivial⟩)
   |true=>
    rw[h2]at cr
    have hi:i<0∨3≤i:=by rcases hb with h|h|h|h<;>simp_all
    refine ct0 Ab Tryz.func11 J false J J ?_
    repeat'(first|refine Ak Ab J J J J J ?_|refine Ap Ab J J J ?_|refine A0 ?_|refine A9 ?_|refine Aw Ab J J ?_|(refine A1 J J J J J (ht:=fun h=>?_) (hf:=fun h=>?_)<;>try exact prn)|(refine A2 J J J J J (ht:=fun h=>?_) (hf:=fun h=>?_)<;>try exact prn)|refine Ag J J J J J ?_|(refine Al J (ht:=fun h=>?_) (hf:=fun h=>?_)<;>try exact prn)|refine Au ?_|refine Aq ?_|refine Ar ?_|refine A3 ?_|refine Aj Ab J J J J J J J (Ac Z) J ?_|refine Ae Ab J J J J J J J Z (Ac Z) J ?_|refine Ah Ab J J J J J J J J J J J J J (by simp[Ad];omega) ?_|refine Af Ab J J J J J J J J J J J J J J (by simp[Ad];omega) ?_|refine A8 Ab J J J J J (fun _=>rfl) (fun b hb=>?_)|refine AD (id:=5) (m:=11) Ab U J J J J ?_|refine AD (id:=14) (m:=12) Ab U J J J J ?_|refine As J J J J ?_|refine A4 ?_|(refine A5 J J J J J (ht:=fun h=>?_) (hf:=fun h=>?_)<;>try exact prn)|(refine A6 J J J J J (ht:=fun h=>?_) (hf:=fun h=>?_)<;>try exact prn)|refine Ai J J J J J ?_|refine An J J J J J J J (Ac Z) J ?_|refine Ao J J J J J J J Z (Ac Z) J ?_|refine A7 Ab J J J J J J J (cm) J J ?_|refine A7 Ab J J J J J J J (cr) J J ?_)
    all_goals first|(exfalso;omega)|exact AC J (BL ⟨BM ⟨Sub.refl _,Sub.refl _,Sub.refl _,Sub.refl _,Sub.refl _,AY,trivial⟩,Sub.refl _,trivial⟩)
 have h1:Bt r=true:=by cases h:Bt r<;>simp_all
 have h2:Bq l=true:=by cases h:Bq l<;>simp_all
 have hi:0≤i∧i≤2:=by omega
 rw[h1]at cm;rw[h2]at cr
 by_cases hk:r.e≠0∨ ¬(r.kind=2∨r.kind=5∨r.kind=7)
 ·obtain⟨e1,e2⟩:=Ki r i l hb hk
  rw[e1,e2]
  refine ct0 Ab Tryz.func11 J false J J ?_
  repeat'(first|refine Ak Ab J J J J J ?_|refine Ap Ab J J J ?_|refine A0 ?_|refine A9 ?_|refine Aw Ab J J ?_|(refine A1 J J J J J (ht:=fun h=>?_) (hf:=fun h=>?_)<;>try exact prn)|(refine A2 J J J J J (ht:=fun h=>?_) (hf:=fun h=>?_)<;>try exact prn)|refine Ag J J J J J ?_|(refine Al J (ht:=fun h=>?_) (hf:=fun h=>?_)<;>try exact prn)|refine Au ?_|refine Aq ?_|refine Ar ?_|refine A3 ?_|refine Aj Ab J J J J J J J (Ac Z) J ?_|refine Ae Ab J J J J J J J Z (Ac Z) J ?_|refine Ah Ab J J J J J J J J J J J J J (by simp[Ad];omega) ?_|refine Af Ab J J J J J J J J J J J J J J (by simp[Ad];omega) ?_|refine A8 Ab J J J J J (fun _=>rfl) (fun b hb=>?_)|refine AD (id:=5) (m:=11) Ab U J J J J ?_|refine AD (id:=14) (m:=12) Ab U J J J J ?_|refine As J J J J ?_|refine A4 ?_|(refine A5 J J J J J (ht:=fun h=>?_) (hf:=fun h=>?_)<;>try exact prn)|(refine A6 J J J J J (ht:=fun h=>?_) (hf:=fun h=>?_)<;>try exact prn)|refine Ai J J J J J ?_|refine An J J J J J J J (Ac Z) J ?_|refine Ao J J J J J J J Z (Ac Z) J ?_|refine A7 Ab J J J J J J J (cm) J J ?_|refine A7 Ab J J J J J J J (cr) J J ?_)
  all_goals first|(exfalso;omega)|exact AC J (Sub.of_eq J)
 obtain⟨f1,f2,f3⟩:=MB r i l hb hk
 obtain⟨k,hki,hkl⟩:=KH (EG h2) hi
 have hts:=hl.2 _ (List.mem_of_getElem? hkl)
 have ho:=Jc h1 O O
 have ct:=IR (Cs l i) r.offset hts O
 generalize Cs l i=t at*
 by_cases h0:toE t r.offset=0
 ·rw[h0]at ct
  rcases(show r.kind=2∨r.kind=5∨r.kind=7 by omega)with hkk|hkk|hkk
  ·exact T9 r i l t k hq hi hki hkl hts h1 O h0 f2 f3 cm cr ct hkk
  ·exact T8 r i l t k hq hi hki hkl hts h1 O h0 f2 f3 cm cr ct hkk
  ·exact T7 r i l t k hq hi hki hkl hts h1 O h0 f2 f3 cm cr ct hkk
 ·obtain⟨e1,e2⟩:=f1 h0
  rw[e1,e2]
  refine ct0 Ab Tryz.func11 J false J J ?_
  repeat'(first|refine Ak Ab J J J J J ?_|refine Ap Ab J J J ?_|refine A0 ?_|refine A9 ?_|refine Aw Ab J J ?_|(refine A1 J J J J J (ht:=fun h=>?_) (hf:=fun h=>?_)<;>try exact prn)|(refine A2 J J J J J (ht:=fun h=>?_) (hf:=fun h=>?_)<;>try exact prn)|refine Ag J J J J J ?_|(refine Al J (ht:=fun h=>?_) (hf:=fun h=>?_)<;>try exact prn)|refine Au ?_|refine Aq ?_|refine Ar ?_|refine A3 ?_|refine Aj Ab J J J J J J J (Ac Z) J ?_|refine Ae Ab J J J J J J J Z (Ac Z) J ?_|refine Ah Ab J J J J J J J J J J J J J (by simp[Ad];omega) ?_|refine Af Ab J J J J J J J J J J J J J J (by simp[Ad];omega) ?_|refine A8 Ab J J J J J (fun _=>rfl) (fun b hb=>?_)|refine AD (id:=5) (m:=11) Ab U J J J J ?_|refine AD (id:=14) (m:=12) Ab U J J J J ?_|refine As J J J J ?_|refine A4 ?_|(refine A5 J J J J J (ht:=fun h=>?_) (hf:=fun h=>?_)<;>try exact prn)|(refine A6 J J J J J (ht:=fun h=>?_) (hf:=fun h=>?_)<;>try exact prn)|refine Ai J J J J J ?_|refine An J J J J J J J (Ac Z) J ?_|refine Ao J J J J J J J Z (Ac Z) J ?_|refine A7 Ab J J J J J J J (cm) J J ?_|refine A7 Ab J J J J J J J (cr) J J ?_|refine Ao J J J J J J J hki (Ac hkl) J ?_|refine Bv J J J J J (ct) J J ?_|refine A7 Ab J J J J J J J (ct) J J ?_)
  all_goals first|(exfalso;omega)|exact AC J (BL ⟨BM ⟨Sub.refl _,Sub.refl _,Sub.refl _,Sub.refl _,Sub.refl _,AY,trivial⟩,Sub.refl _,trivial⟩)
end Go.Proofs.YthjoclecnacdiaaGreatDoor
