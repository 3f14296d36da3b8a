/- Contracts and laws, joined: Rb, Rc, Rd, Re, Rf. No condition beside those that each theorem names. -/
import Derived.Test.YthjoclecnacdiaaGreatDoorZS1
set_option linter.unusedVariables false
set_option linter.unusedSimpArgs false
namespace Go.Proofs.YthjoclecnacdiaaGreatDoor
open Go.Am
attribute [local irreducible] Decidable.decide
set_option maxRecDepth 100000
set_option maxHeartbeats 1000000
def G6 (s:Bs):Bs:=BR s.length++s
theorem N0 (s:Bs):D2 s=s.map Bo:=rfl
end Go.Proofs.YthjoclecnacdiaaGreatDoor
namespace Go.Proofs.YthjoclecnacdiaaGreatDoor
open Go.Am
attribute [local irreducible] Decidable.decide
set_option maxRecDepth 100000
set_option maxHeartbeats 1000000
def GS (r:Rec):Bool:=decide ((r.key.length:Int)≤16)&&decide ((r.value.length:Int)≤16)
theorem H8 {r:Rec}:GS r=true↔(r.key.length:Int)≤16∧(r.value.length:Int)≤16:=by simp[GS]
theorem OL {r:Rec} (h: ¬((r.key.length:Int)≤16∧(r.value.length:Int)≤16)):GS r=false:=by rw[←Bool.not_eq_true,H8];exact h
def CX (b:Batch):Prop:=1≤b.pid∧b.pid≤8∧0≤b.epoch∧b.epoch≤100∧0≤b.seq∧1≤b.recs.length∧b.recs.length≤4∧b.seq+b.recs.length≤1048576
instance (b:Batch):Decidable (CX b):=by unfold CX;infer_instance
def B3 (b:Batch):Bool:=decide (CX b)&&b.recs.all GS
theorem PY {α:Type} {p:α→Bool} {l:List α} {i:Nat} {x:α} (h:l[i]?=some x) (ha:(l.take i).all p=true) (hp:p x=true):(l.take (i+1)).all p=true:=by
 rw[BK h,List.all_append,ha];simp[hp]
theorem Sa {α:Type} {p:α→Bool} {l:List α} {i:Nat} {x:α} (h:l[i]?=some x) (hp:p x=false):l.all p=false:=by
 rw[List.all_eq_false];exact⟨x,List.mem_of_getElem? h,by simp[hp]⟩
theorem VZ {α:Type} {p:α→Bool} {l:List α} {i:Nat} (h:l.length≤i) (ha:(l.take i).all p=true):l.all p=true:=by
 rwa[List.take_of_length_le h]at ha
theorem QB {b:Batch} (h: ¬CX b):false=B3 b:=by simp[B3,h]
theorem RG {b:Batch} (h:b.recs.all GS=false):false=B3 b:=by simp[B3,h]
theorem V8 {b:Batch} (h:CX b) (h2:b.recs.all GS=true):true=B3 b:=by simp[B3,h,h2]
theorem Eo (b:Batch):Ct Tryz.prog 37 [.agg (AA (Bj b))] [] (.t (.bool (B3 b))) []:=by
 refine ct0 Ab Tryz.func37 J false J J ?_
 repeat'(first|refine Ak Ab J J J J J ?_|refine Ap Ab J J J ?_|refine A0 ?_|refine A9 ?_|refine Aw Ab J J ?_|(refine A1 J J J J J (ht:=fun h=>?_) (hf:=fun h=>?_)<;>try exact prn)|(refine A2 J J J J J (ht:=fun h=>?_) (hf:=fun h=>?_)<;>try exact prn)|refine Ag J J J J J ?_|(refine Al J (ht:=fun h=>?_) (hf:=fun h=>?_)<;>try exact prn)|refine Au ?_|refine Aq ?_|refine Ar ?_|refine A3 ?_|refine Aj Ab J J J J J J J (Ac Z) J ?_|refine Ae Ab J J J J J J J Z (Ac Z) J ?_|refine Ah Ab J J J J J J J J J J J J J (by simp[Ad];omega) ?_|refine Af Ab J J J J J J J J J J J J J J (by simp[Ad];omega) ?_)
 all_goals try rw[List.length_map]at*
 all_goals try(refine AC J ?_;refine BN (QB ?_);unfold CX;omega)
 ·rw[AW O O]at h
  refine AC J ?_;refine BN (QB ?_);unfold CX;omega
 ·rw[AW O O]at h
  have hbd:CX b:=by unfold CX;omega
  refine BC (ι:=Nat) (fun i=>i≤b.recs.length∧(b.recs.take i).all GS=true) (fun i=>[(1,.ref 2 0),(3,.t (.int .i64 i))]) (fun _=>[(2,.cells (AA (Bj b)))]) (fun i=>b.recs.length-i) 0 Y ?_ ?_
  ·exact Ce [] (Av J J (Av J J AJ)) J
  rintro i ⟨hi,hall⟩
  by_cases hlt:i<b.recs.length
  ·have hr:b.recs[i]?=some b.recs[i]:=List.getElem?_eq_getElem hlt
   generalize b.recs[i]=r at hr
   repeat'(first|refine Ak Ab J J J J J ?_|refine Ap Ab J J J ?_|refine A0 ?_|refine A9 ?_|refine Aw Ab J J ?_|(refine A1 J J J J J (ht:=fun h=>?_) (hf:=fun h=>?_)<;>try exact prn)|(refine A2 J J J J J (ht:=fun h=>?_) (hf:=fun h=>?_)<;>try exact prn)|refine Ag J J J J J ?_|(refine Al J (ht:=fun h=>?_) (hf:=fun h=>?_)<;>try exact prn)|refine Au ?_|refine Aq ?_|refine Ar ?_|refine A3 ?_|refine Aj Ab J J J J J J J (Ac Z) J ?_|refine Ae Ab J J J J J J J Z (Ac Z) J ?_|refine Ah Ab J J J J J J J J J J J J J (by simp[Ad];omega) ?_|refine Af Ab J J J J J J J J J J J J J J (by simp[Ad];omega) ?_)
   ·exact AC J (BN (RG (Sa hr (OL O))))
   ·refine BB (i+1) ⟨hlt,PY hr hall (H8.2 O)⟩ O [] (Av J J (Av J ?_ AJ)) J
    rw[AW O O];rfl
   ·exact AC J (BN (RG (Sa hr (OL O))))
  ·repeat'(first|refine Ak Ab J J J J J ?_|refine Ap Ab J J J ?_|refine A0 ?_|refine A9 ?_|refine Aw Ab J J ?_|(refine A1 J J J J J (ht:=fun h=>?_) (hf:=fun h=>?_)<;>try exact prn)|(refine A2 J J J J J (ht:=fun h=>?_) (hf:=fun h=>?_)<;>try exact prn)|refine Ag J J J J J ?_|(refine Al J (ht:=fun h=>?_) (hf:=fun h=>?_)<;>try exact prn)|refine Au ?_|refine Aq ?_|refine Ar ?_|refine A3 ?_|refine Aj Ab J J J J J J J (Ac Z) J ?_|refine Ae Ab J J J J J J J Z (Ac Z) J ?_|refine Ah Ab J J J J J J J J J J J J J (by simp[Ad];omega) ?_|refine Af Ab J J J J J J J J J J J J J J (by simp[Ad];omega) ?_)
   exact AC J (BN (V8 hbd (VZ O hall)))
end Go.Proofs.YthjoclecnacdiaaGreatDoor
namespace Go.Proofs.YthjoclecnacdiaaGreatDoor
open Go.Am
attribute [local irreducible] Decidable.decide
set_option maxRecDepth 100000
set_option maxHeartbeats 1000000
theorem Se (n a b:Int):Ct Tryz.prog 66 [.t (.int .i64 n),.t (.int .i64 a),.t (.int .i64 b)] [] (.t (.bool (decide (a≤n∧n≤b)))) []:=by
 refine ct0 Ab Tryz.func66 J false J J ?_
 repeat'(first|refine Ak Ab J J J J J ?_|refine Ap Ab J J J ?_|refine A0 ?_|refine A9 ?_|refine Aw Ab J J ?_|(refine A1 J J J J J (ht:=fun h=>?_) (hf:=fun h=>?_)<;>try exact prn)|(refine A2 J J J J J (ht:=fun h=>?_) (hf:=fun h=>?_)<;>try exact prn)|refine Ag J J J J J ?_|(refine Al J (ht:=fun h=>?_) (hf:=fun h=>?_)<;>try exact prn)|refine Au ?_|refine Aq ?_|refine Ar ?_|refine A3 ?_|refine Aj Ab J J J J J J J (Ac Z) J ?_|refine Ae Ab J J J J J J J Z (Ac Z) J ?_|refine Ah Ab J J J J J J J J J J J J J (by simp[Ad];omega) ?_|refine Af Ab J J J J J J J J J J J J J J (by simp[Ad];omega) ?_)
 all_goals(refine AC J (BN ?_);(first|exact bI O|exact bT O|exact bF O))
def LB (r:Row):Bool:=decide (1≤r.pid∧r.pid≤8∧0≤r.seq∧r.seq≤1048575∧(r.key.length:Int)≤16∧(r.value.length:Int)≤16)
theorem QC (r:Row):Ct Tryz.prog 46 [.agg (AA (AK r))] [] (.t (.bool (LB r))) []:=by
 refine ct0 Ab Tryz.func46 J false J J ?_
 repeat'(first|refine Ak Ab J J J J J ?_|refine Ap Ab J J J ?_|refine A0 ?_|refine A9 ?_|refine Aw Ab J J ?_|(refine A1 J J J J J (ht:=fun h=>?_) (hf:=fun h=>?_)<;>try exact prn)|(refine A2 J J J J J (ht:=fun h=>?_) (hf:=fun h=>?_)<;>try exact prn)|refine Ag J J J J J ?_|(refine Al J (ht:=fun h=>?_) (hf:=fun h=>?_)<;>try exact prn)|refine Au ?_|refine Aq ?_|refine Ar ?_|refine A3 ?_|refine Aj Ab J J J J J J J (Ac Z) J ?_|refine Ae Ab J J J J J J J Z (Ac Z) J ?_|refine Ah Ab J J J J J J J J J J J J J (by simp[Ad];omega) ?_|refine Af Ab J J J J J J J J J J J J J J (by simp[Ad];omega) ?_|refine A7 Ab J J J J J J J (Se _ _ _) J J ?_)
 all_goals(refine AC J (BN ?_);unfold LB;(first|exact bI O|exact bT O|exact bF O))
theorem T6 (a b:Batch) (ha:a.recs.length≤1000000):Ct Tryz.prog 28 [.agg (AA (Bj a)),.agg (AA (Bj b))] [] (.t (.bool (decide (a=b)))) []:=by
 refine ct0 Ab Tryz.func28 J false J J ?_
 repeat'(first|refine Ak Ab J J J J J ?_|refine Ap Ab J J J ?_|refine A0 ?_|refine A9 ?_|refine Aw Ab J J ?_|(refine A1 J J J J J (ht:=fun h=>?_) (hf:=fun h=>?_)<;>try exact prn)|(refine A2 J J J J J (ht:=fun h=>?_) (hf:=fun h=>?_)<;>try exact prn)|refine Ag J J J J J ?_|(refine Al J (ht:=fun h=>?_) (hf:=fun h=>?_)<;>try exact prn)|refine Au ?_|refine Aq ?_|refine Ar ?_|refine A3 ?_|refine Aj Ab J J J J J J J (Ac Z) J ?_|refine Ae Ab J J J J J J J Z (Ac Z) J ?_|refine Ah Ab J J J J J J J J J J J J J (by simp[Ad];omega) ?_|refine Af Ab J J J J J J J J J J J J J J (by simp[Ad];omega) ?_|refine AD (id:=6) (m:=10) Ab U J J J J ?_|refine As J J J J ?_|refine A4 ?_|(refine A5 J J J J J (ht:=fun h=>?_) (hf:=fun h=>?_)<;>try exact prn)|(refine A6 J J J J J (ht:=fun h=>?_) (hf:=fun h=>?_)<;>try exact prn)|refine Ai J J J J J ?_|refine An J J J J J J J (Ac Z) J ?_)
 all_goals try(refine AC J (BN (bF fun e=>?_));subst e;simp at*;done)
 rename_i h1 _ _ h2 _ _ h3 _ _ h4 _ _
 simp only[List.length_map,Decidable.not_not]at*
 have hl:a.recs.length=b.recs.length:=by omega
 refine BC (ι:=Nat) (fun i=>i≤a.recs.length∧a.recs.take i=b.recs.take i) (fun i=>[(2,.ref 4 0),(3,.ref 6 0),(5,.t (.int .i64 i))]) (fun _=>[(6,.cells (AA (Bj b))),(4,.cells (AA (Bj a)))]) (fun i=>a.recs.length-i) 0 Y ?_ ?_
 ·exact Ce [] (Av J J (Av J J (Av J J AJ))) J
 rintro i ⟨hi,htk⟩
 by_cases hlt:i<a.recs.length
 ·have hr:a.recs[i]?=some a.recs[i]:=List.getElem?_eq_getElem hlt
  have hs:b.recs[i]?=some (b.recs[i]' O):=List.getElem?_eq_getElem _
  generalize a.recs[i]=r at hr
  generalize b.recs[i]' O=s at hs
  repeat'(first|refine Ak Ab J J J J J ?_|refine Ap Ab J J J ?_|refine A0 ?_|refine A9 ?_|refine Aw Ab J J ?_|(refine A1 J J J J J (ht:=fun h=>?_) (hf:=fun h=>?_)<;>try exact prn)|(refine A2 J J J J J (ht:=fun h=>?_) (hf:=fun h=>?_)<;>try exact prn)|refine Ag J J J J J ?_|(refine Al J (ht:=fun h=>?_) (hf:=fun h=>?_)<;>try exact prn)|refine Au ?_|refine Aq ?_|refine Ar ?_|refine A3 ?_|refine Aj Ab J J J J J J J (Ac Z) J ?_|refine Ae Ab J J J J J J J Z (Ac Z) J ?_|refine Ah Ab J J J J J J J J J J J J J (by simp[Ad];omega) ?_|refine Af Ab J J J J J J J J J J J J J J (by simp[Ad];omega) ?_|refine AD (id:=6) (m:=10) Ab U J J J J ?_|refine As J J J J ?_|refine A4 ?_|(refine A5 J J J J J (ht:=fun h=>?_) (hf:=fun h=>?_)<;>try exact prn)|(refine A6 J J J J J (ht:=fun h=>?_) (hf:=fun h=>?_)<;>try exact prn)|refine Ai J J J J J ?_|refine An J J J J J J J (Ac Z) J ?_)
  ·exact AC J (BN (bF (fun e=>by subst e;rw[hr]at hs;cases hs;simp at h)))
  ·have e:r=s:=by cases r;cases s;simp at h;simp[h]
   refine BB (i+1) ⟨hlt,IF hr hs htk e⟩ O [] (Av J J (Av J J (Av J ?_ AJ))) J
   rw[AW O O];rfl
 ·repeat'(first|refine Ak Ab J J J J J ?_|refine Ap Ab J J J ?_|refine A0 ?_|refine A9 ?_|refine Aw Ab J J ?_|(refine A1 J J J J J (ht:=fun h=>?_) (hf:=fun h=>?_)<;>try exact prn)|(refine A2 J J J J J (ht:=fun h=>?_) (hf:=fun h=>?_)<;>try exact prn)|refine Ag J J J J J ?_|(refine Al J (ht:=fun h=>?_) (hf:=fun h=>?_)<;>try exact prn)|refine Au ?_|refine Aq ?_|refine Ar ?_|refine A3 ?_|refine Aj Ab J J J J J J J (Ac Z) J ?_|refine Ae Ab J J J J J J J Z (Ac Z) J ?_|refine Ah Ab J J J J J J J J J J J J J (by simp[Ad];omega) ?_|refine Af Ab J J J J J J J J J J J J J J (by simp[Ad];omega) ?_|refine AD (id:=6) (m:=10) Ab U J J J J ?_|refine As J J J J ?_|refine A4 ?_|(refine A5 J J J J J (ht:=fun h=>?_) (hf:=fun h=>?_)<;>try exact prn)|(refine A6 J J J J J (ht:=fun h=>?_) (hf:=fun h=>?_)<;>try exact prn)|refine Ai J J J J J ?_|refine An J J J J J J J (Ac Z) J ?_)
  have e:=KF hl O htk
  exact AC J (BN (bT (by cases a;cases b;simp_all)))
end Go.Proofs.YthjoclecnacdiaaGreatDoor
namespace Go.Proofs.YthjoclecnacdiaaGreatDoor
open Go.Am
attribute [local irreducible] Decidable.decide
set_option maxRecDepth 100000
set_option maxHeartbeats 1000000
abbrev b0:Batch:=⟨0,0,0,false,[]⟩
abbrev Aa7:Row:=⟨0,0,0,[],[]⟩
abbrev X6:Prod:=⟨0,0,0,[]⟩
end Go.Proofs.YthjoclecnacdiaaGreatDoor
namespace Go.Proofs.YthjoclecnacdiaaGreatDoor
open Go.Am
attribute [local irreducible] Decidable.decide
set_option maxRecDepth 100000
set_option maxHeartbeats 1000000
def Gn (s:Seen):Prop:=0≤s.seq∧1≤s.count∧s.count≤4∧ -1≤s.base∧s.base≤1048576
instance (s:Seen):Decidable (Gn s):=by unfold Gn;infer_instance
def E5 (next:Int):List Seen→Int
 |[]=>next
 |t::_=>t.seq
def Cx (next:Int):List Seen→Bool
 |[]=>true
 |s::r=>decide (Gn s∧s.seq≤E5 next r-s.count)&&Cx next r
def EN (p:Prod):Prop:=1≤p.pid∧p.pid≤8∧0≤p.epoch∧p.epoch≤100∧0≤p.next∧p.next≤1048576∧(p.seen.length:Int)≤3
instance (p:Prod):Decidable (EN p):=by unfold EN;infer_instance
def GY (p:Prod):Bool:=decide (EN p)&&Cx p.next p.seen
theorem J6 {next:Int} (h0:0≤next) (h1:next≤1048576): ∀{l:List Seen},Cx next l=true→0≤E5 next l∧E5 next l≤1048576
 |[],_=>⟨h0,h1⟩
 |s::r,h=>by
  simp only[Cx,Bool.and_eq_true,decide_eq_true_eq]at h
  have ih:=J6 h0 h1 h.2
  have:=h.1.1;unfold Gn at this
  simp only[E5];omega
theorem Uk {p:Prod} (h: ¬EN p):false=GY p:=by simp[GY,h]
theorem OV {p:Prod} (h:Cx p.next p.seen=false):false=GY p:=by simp[GY,h]
theorem SP {p:Prod} (h:EN p) (h2:Cx p.next p.seen=true):true=GY p:=by simp[GY,h,h2]
theorem Gb {α:Type} {l:List α} {i:Nat} {x:α} (h:l[i]?=some x):l.drop i=x::l.drop (i+1):=by
 obtain⟨hi,rfl⟩:=List.getElem?_eq_some_iff.1 h
 exact List.drop_eq_getElem_cons hi
end Go.Proofs.YthjoclecnacdiaaGreatDoor
