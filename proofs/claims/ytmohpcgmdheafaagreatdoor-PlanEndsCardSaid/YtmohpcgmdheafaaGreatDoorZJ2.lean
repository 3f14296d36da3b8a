/- Contracts and laws, joined: Rg, Rh, Ri, Rj, Rk, Rl, Pa, Pb, Pc, Pd, Pe. No condition beside those that each theorem names. -/
import Derived.Test.YtmohpcgmdheafaaGreatDoorZJ1
set_option linter.unusedVariables false
set_option linter.unusedSimpArgs false
set_option maxRecDepth 100000
set_option maxHeartbeats 8000000
namespace Go.Proofs.YtmohpcgmdheafaaGreatDoor
open Go.Am
attribute [local irreducible] Decidable.decide Tr A2 hSK hSW
def DS (x:Entry):Bool:=decide (x=Gr x)
def B9 (x:Entry):Bool:=DS x&&
 (if x.kind=0 then A9 x.b
 else if x.kind=1 then decide (1<=x.b.pid/\x.b.pid<=8/\0<=x.b.epoch/\x.b.epoch<=100)
 else if x.kind=2 then decide (0<=x.offset/\x.offset<=1048576)
 else if x.kind=3 then A9 x.b&&x.b.txn&&decide (0<=x.next/\x.next<=1048576)
 else if x.kind=4 then decide (1<=x.b.pid/\x.b.pid<=8/\0<=x.b.epoch/\x.b.epoch<=100)&&decide (0<=x.next/\x.next<=1048576)
 else if x.kind=5 then FD x.row
 else if x.kind=6 then C1 x.prod
 else false)
theorem HL (x:Entry) (ha:x.b.recs.length<=1000000) (hp:x.prod.seen.length<=1000000):A17 235 [.agg (Ah (Az x))] [] (.t (.bool (B9 x))) []:=by
 refine ct0 Ag Tryz.func235 Y false Y Y ?_
 have hsm:A17 294 [.agg (Ah (Az x)),.agg (Ah (Az (Gr x)))] [] (.t (.bool (DS x))) []:=Agp x (Gr x) ha hp
 repeat'(first|exact prB|refine stC ?_|refine stU (fun h=>?_) fun h=>?_|refine stD 1 3 ?_|refine stL ?_ (c:=Ii _ _ _)|refine stL ?_ (c:=MI _ _)|refine stM ?_ (c:=Ab0 x)|refine stL ?_ (c:=Ab0 x)|refine stM ?_ (c:=hsm)|refine stL ?_ (c:=hsm)|refine stL ?_ (c:=Vg x.b)|refine stL ?_ (c:=R0 x.row)|refine stL ?_ (c:=TB x.prod)|fail)
 all_goals(refine Ai Y (AP ?_);unfold B9;clear hsm;(try simp only[Decidable.not_not]at*);simp[*])
def YF (r:Rec):Bs:=DT r.key++DT r.value
def Ch (y:Bool):Bs:=[if y then 1 else 0]
def CG (b:Batch):Bs:=AY b.pid.toNat++AY b.epoch.toNat++AY b.seq.toNat++Ch b.txn++AY b.recs.length++b.recs.flatMap YF
theorem ES {s:Bs} (h:s.length<=16):(DT s).length<=22:=by
 have:=AC (n:=s.length) Aa
 simp[DT];omega
theorem MH: ∀{l:List Rec},l.all Ix=true->(l.flatMap YF).length<=44*l.length
 |[],_=>by simp
 |r::l,h=>by
  simp only[List.all_cons,Bool.and_eq_true]at h
  have ih:=MH h.2
  have h1:=Iw.1 h.1
  have h2:=ES (s:=r.key) Aa
  have h3:=ES (s:=r.value) Aa
  simp only[List.flatMap_cons,List.length_append,List.length_cons,YF];omega
theorem Iz {sz:Nat}:Sub (.t (.slice .nil sz [])) (.t (.slice .any 1 (([]:Bs).map A7))):=Ak
theorem Um (b:Batch) (hb:A9 b=true):A17 236 [.agg (Ah (Au b))] [] (.tuple [.t (.str (CG b)),.t (.int .i64 0)]) []:=by
 have hm:=hb
 simp only[A9,Bool.and_eq_true,decide_eq_true_eq]at hm
 obtain⟨hbd,hall⟩:=hm
 have hbd':=hbd;unfold CN at hbd'
 have hlm:(b.recs.map AJ).length=b.recs.length:=List.length_map ..
 have l1:=AC (n:=b.pid.toNat) Aa
 have l2:=AC (n:=b.epoch.toNat) Aa
 have l3:=AC (n:=b.seq.toNat) Aa
 have l4:=AC (n:=b.recs.length) Aa
 refine ct0 Ag Tryz.func236 Y false Y Y ?_
 have c1:A17 292 [.t (.slice .nil 0 []),.t (.int .i64 b.pid)] [] _ []:=(KU [] b.pid Aa Aa Ac).args ⟨Iz,A1x _,trivial⟩
 have cm:A17 223 [.agg (Ah (Au b))] [] (.t (.bool true)) []:=hb▸Vg b
 repeat'(first|exact prB|refine stC ?_|refine stU (fun h=>?_) fun h=>?_|refine stL ?_ (c:=cm)|refine stL ?_ (c:=c1)|refine stL ?_ (c:=KU _ _ Aa Aa (by simp;omega))|refine stL ?_ (c:=PX _ _ (by simp;omega))|fail)
 refine A3 (ι:=Nat) (fun i=>i<=b.recs.length) (fun i=>[(1,.ref 2 0),(4,.t (.slice .any 1 ((AY b.pid.toNat++AY b.epoch.toNat++AY b.seq.toNat++Ch b.txn++AY b.recs.length++(b.recs.take i).flatMap YF).map A7))),(6,.t (.int .i64 i))]) (fun _=>[(2,.cells (Ah (Au b)))]) (fun i=>b.recs.length-i) 0 Ac ?_ ?_
 ·exact AE [] (Af Y Y (Af Y (by simp[Ch]) (Af Y Y Aj))) Y
 rintro i hi
 by_cases hlt:i<b.recs.length
 ·have hr:b.recs[i]?=some b.recs[i]:=List.getElem?_eq_getElem hlt
  have hrok:=Iw.1 (List.all_eq_true.1 hall b.recs[i] (List.getElem_mem hlt))
  have hl5:=MH (l:=b.recs.take i) (List.all_eq_true.2 fun x hx=>List.all_eq_true.1 hall x (List.mem_of_mem_take hx))
  rw[List.length_take]at hl5
  generalize b.recs[i]=r at hr hrok
  have hl6:=ES (s:=r.key) Aa
  repeat'(first|exact prB|refine stC ?_|refine stU (fun h=>?_) fun h=>?_|refine stL ?_ (c:=PD _ r.key Aa (by simp only[List.length_append,List.length_cons,List.length_nil,Ch];omega))|refine stL ?_ (c:=PD _ r.value Aa (by simp only[List.length_append,List.length_cons,List.length_nil,Ch];omega))|fail)
  refine Ay (i+1) Aa Aa [] (Af Y Y (Af Y ?_ (Af Y ?_ Aj))) Y
  ·rw[A5 hr];simp[YF]
  ·rw[An Aa Aa];rfl
 ·repeat'(first|exact prB|refine stC ?_|refine stU (fun h=>?_) fun h=>?_|refine Ci Ag Y Y Y Y Y Y (B8 _).symm Y ?_|fail)
  refine Ai Y (A1y ?_);rw[List.take_of_length_le Aa];rfl
def JT (s:Seen):Bs:=BK [s.seq,s.count,s.base+1]
def Bx (x:Entry):Bs:=UInt8.ofNat x.kind.toNat::
 (if x.kind=0 then CG x.b
 else if x.kind=1 then BK [x.b.pid,x.b.epoch]++Ch x.yes
 else if x.kind=2 then BK [x.offset]
 else if x.kind=3 then CG x.b++Ch x.yes++(if x.yes then BK [x.next]else[])
 else if x.kind=4 then BK [x.b.pid,x.b.epoch]++BK [x.next]
 else if x.kind=5 then BK [x.row.pid,x.row.seq]++DT x.row.key++DT x.row.value
 else BK [x.prod.pid,x.prod.epoch,x.prod.next,x.prod.seen.length]++x.prod.seen.flatMap JT)
theorem En {b:Batch} (h:A9 b=true):(CG b).length<=1000:=by
 simp only[A9,Bool.and_eq_true,decide_eq_true_eq]at h
 obtain⟨hbd,hall⟩:=h
 unfold CN at hbd
 have l1:=AC (n:=b.pid.toNat) Aa
 have l2:=AC (n:=b.epoch.toNat) Aa
 have l3:=AC (n:=b.seq.toNat) Aa
 have l4:=AC (n:=b.recs.length) Aa
 have l5:=MH hall
 unfold CG
 simp only[List.length_append,Ch,List.length_cons,List.length_nil];omega
theorem T1 {x:Entry} (h:B9 x=true):x.kind=0\/x.kind=1\/x.kind=2\/x.kind=3\/x.kind=4\/x.kind=5\/x.kind=6:=by
 unfold B9 at h
 simp only[Bool.and_eq_true]at h
 have h:=h.2
 repeat (split at h;·simp[*])
 cases h
theorem CU {x:Entry} (h:B9 x=true):x=Gr x/\(if x.kind=0 then A9 x.b=true
 else if x.kind=1 then(1<=x.b.pid/\x.b.pid<=8/\0<=x.b.epoch/\x.b.epoch<=100)
 else if x.kind=2 then(0<=x.offset/\x.offset<=1048576)
 else if x.kind=3 then A9 x.b=true/\x.b.txn=true/\(0<=x.next/\x.next<=1048576)
 else if x.kind=4 then(1<=x.b.pid/\x.b.pid<=8/\0<=x.b.epoch/\x.b.epoch<=100)/\(0<=x.next/\x.next<=1048576)
 else if x.kind=5 then FD x.row=true
 else x.kind=6/\C1 x.prod=true):=by
 unfold B9 DS at h
 simp only[Bool.and_eq_true,decide_eq_true_eq]at h
 obtain⟨h1,h⟩:=h
 refine⟨h1,?_⟩
 clear h1
 repeat (split at h;·simp_all)
 cases h
theorem Mf {k:Int} {kb:UInt8} (h:k=(kb.toNat:Int)):Bq 1 1 [T.int .u8 (IntKind.u8.wrap k)]=[kb].map A7:=by
 have h1:IntKind.u8.wrap k=(kb.toNat:Int):=by
  subst h
  have:=kb.toNat_lt
  simp[IntKind.wrap,IntKind.bits,IntKind.signed];omega
 rw[h1];rfl
theorem Ajt (x:Entry) (hk:x.kind=0) (hm:B9 x=true) (ha:x.b.recs.length<=1000000) (hp:x.prod.seen.length<=1000000):A17 173 [.agg (Ah (Az x))] [] (.tuple [.t (.str (0::CG x.b)),.t (.int .i64 0)]) []:=by
 have hma:=(CU hm).2
 simp only[hk,if_true]at hma
 have hbl:=En hma
 have hkb:=Mf (k:=x.kind) (kb:=0) hk
 refine ct0 Ag Tryz.func173 Y false Y Y ?_
 have cm:A17 235 [.agg (Ah (Az x))] [] (.t (.bool true)) []:=hm▸HL x ha hp
 repeat'(first|exact prB|refine stC ?_|refine stU (fun h=>?_) fun h=>?_|refine stL ?_ (c:=cm)|refine stL ?_ (c:=Um x.b hma)|refine IQ Ag Y Y Y Y Y Y Y Y Y Y Y Y (by simp[Bq,DI];omega) ?_|refine Ci (s:=0::CG x.b) Ag Y Y Y Y Y Y (by rw[show ti5.size=1 from rfl,hkb];rfl) Y ?_|fail)
 exact Ai Y (A1x _)
theorem Ajs (x:Entry) (hk:x.kind=1) (hm:B9 x=true) (ha:x.b.recs.length<=1000000) (hp:x.prod.seen.length<=1000000):A17 173 [.agg (Ah (Az x))] [] (.tuple [.t (.str ([1]++BK [x.b.pid,x.b.epoch]++Ch x.yes)),.t (.int .i64 0)]) []:=by
 have hma:=(CU hm).2
 simp only[hk,if_true,Int.reduceEq,if_false]at hma
 have hkb:=Mf (k:=x.kind) (kb:=1) hk
 have hS1:Sub (.t (.slice .full 1 (Bq 1 1 [T.int .u8 (IntKind.u8.wrap x.kind)]))) (.t (.slice .any 1 ([1].map A7))):=hkb▸Ar
 refine ct0 Ag Tryz.func173 Y false Y Y ?_
 have cm:A17 235 [.agg (Ah (Az x))] [] (.t (.bool true)) []:=hm▸HL x ha hp
 have hnl:(BK [x.b.pid,x.b.epoch]).length<=100:=by
  have l1:=AC (n:=x.b.pid.toNat) Aa
  have l2:=AC (n:=x.b.epoch.toNat) Aa
  simp[BK];omega
 repeat'(first|exact prB|refine stC ?_|refine stU (fun h=>?_) fun h=>?_|refine stL ?_ (c:=cm)|refine BG Ag Y Y Y Y (Ee [1] [x.b.pid,x.b.epoch] (by simp;omega) Ac Ac) Y Y Y ⟨hS1,Ar,trivial⟩ ?_|refine stL ?_ (c:=PX _ _ (by simp only[List.length_append,List.length_cons,List.length_nil,Ch];omega))|refine Ci Ag Y Y Y Y Y Y (B8 _).symm Y ?_|fail)
 exact Ai Y (A1x _)
theorem Ajr (x:Entry) (hk:x.kind=2) (hm:B9 x=true) (ha:x.b.recs.length<=1000000) (hp:x.prod.seen.length<=1000000):A17 173 [.agg (Ah (Az x))] [] (.tuple [.t (.str ([2]++BK [x.offset])),.t (.int .i64 0)]) []:=by
 have hma:=(CU hm).2
 simp only[hk,if_true,Int.reduceEq,if_false]at hma
 have hkb:=Mf (k:=x.kind) (kb:=2) hk
 have hS1:Sub (.t (.slice .full 1 (Bq 1 1 [T.int .u8 (IntKind.u8.wrap x.kind)]))) (.t (.slice .any 1 ([2].map A7))):=hkb▸Ar
 refine ct0 Ag Tryz.func173 Y false Y Y ?_
 have cm:A17 235 [.agg (Ah (Az x))] [] (.t (.bool true)) []:=hm▸HL x ha hp
 repeat'(first|exact prB|refine stC ?_|refine stU (fun h=>?_) fun h=>?_|refine stL ?_ (c:=cm)|refine BG Ag Y Y Y Y (Ee [2] [x.offset] (by simp;omega) Ac Ac) Y Y Y ⟨hS1,Ar,trivial⟩ ?_|refine Ci Ag Y Y Y Y Y Y (B8 _).symm Y ?_|fail)
 exact Ai Y (A1x _)
theorem Ajq (x:Entry) (hk:x.kind=3) (hm:B9 x=true) (ha:x.b.recs.length<=1000000) (hp:x.prod.seen.length<=1000000):A17 173 [.agg (Ah (Az x))] [] (.tuple [.t (.str ([3]++CG x.b++Ch x.yes++(if x.yes=true then BK [x.next]else[]))),.t (.int .i64 0)]) []:=by
 have hma:=(CU hm).2
 simp only[hk,if_true,Int.reduceEq,if_false]at hma
 have hkb:=Mf (k:=x.kind) (kb:=3) hk
 have hS1:Sub (.t (.slice .full 1 (Bq 1 1 [T.int .u8 (IntKind.u8.wrap x.kind)]))) (.t (.slice .any 1 ([3].map A7))):=hkb▸Ar
 refine ct0 Ag Tryz.func173 Y false Y Y ?_
 have cm:A17 235 [.agg (Ah (Az x))] [] (.t (.bool true)) []:=hm▸HL x ha hp
 obtain⟨hmb,htx,hn0,hn1⟩:=hma
 have hbl:=En hmb
 have hS2:Sub (.t (.slice .any 1 (Bq 1 1 [T.int .u8 (IntKind.u8.wrap x.kind)]++Dt (CG x.b)))) (.t (.slice .any 1 (([3]++CG x.b).map A7))):=A1y (by rw[hkb];rfl)
 repeat'(first|exact prB|refine stC ?_|refine stU (fun h=>?_) fun h=>?_|refine stL ?_ (c:=cm)|refine stL ?_ (c:=Um x.b hmb)|refine IQ Ag Y Y Y Y Y Y Y Y Y Y Y Y (by simp[Bq,DI];omega) ?_|refine BG Ag Y Y Y Y (PX ([3]++CG x.b) x.yes (by simp only[List.length_append,List.length_cons,List.length_nil,Ch];omega)) Y Y Y ⟨hS2,A1x _,trivial⟩ ?_|refine BG Ag Y Y Y Y (Ee _ [x.next] (by simp;omega) Ac (by simp only[List.length_append,List.length_cons,List.length_nil,Ch];omega)) Y Y Y ⟨A1x _,Ar,trivial⟩ ?_|refine Ci Ag Y Y Y Y Y Y (B8 _).symm Y ?_|fail)
 ·have hy:x.yes=true:=by assumption
  refine Ai Y (A1y ?_);simp[hy,Ch]
 ·have hy: ¬x.yes=true:=by assumption
  refine Ai Y (A1y ?_);simp[hy,Ch]
theorem Ajp (x:Entry) (hk:x.kind=4) (hm:B9 x=true) (ha:x.b.recs.length<=1000000) (hp:x.prod.seen.length<=1000000):A17 173 [.agg (Ah (Az x))] [] (.tuple [.t (.str ([4]++BK [x.b.pid,x.b.epoch]++BK [x.next])),.t (.int .i64 0)]) []:=by
 have hma:=(CU hm).2
 simp only[hk,if_true,Int.reduceEq,if_false]at hma
 have hkb:=Mf (k:=x.kind) (kb:=4) hk
 have hS1:Sub (.t (.slice .full 1 (Bq 1 1 [T.int .u8 (IntKind.u8.wrap x.kind)]))) (.t (.slice .any 1 ([4].map A7))):=hkb▸Ar
 refine ct0 Ag Tryz.func173 Y false Y Y ?_
 have cm:A17 235 [.agg (Ah (Az x))] [] (.t (.bool true)) []:=hm▸HL x ha hp
 have hnl:(BK [x.b.pid,x.b.epoch]).length<=100:=by
  have l1:=AC (n:=x.b.pid.toNat) Aa
  have l2:=AC (n:=x.b.epoch.toNat) Aa
  simp[BK];omega
 repeat'(first|exact prB|refine stC ?_|refine stU (fun h=>?_) fun h=>?_|refine stL ?_ (c:=cm)|refine BG Ag Y Y Y Y (Ee [4] [x.b.pid,x.b.epoch] (by simp;omega) Ac Ac) Y Y Y ⟨hS1,Ar,trivial⟩ ?_|refine BG Ag Y Y Y Y (Ee _ [x.next] (by simp;omega) Ac (by simp only[List.length_append,List.length_cons,List.length_nil,Ch];omega)) Y Y Y ⟨A1x _,Ar,trivial⟩ ?_|refine Ci Ag Y Y Y Y Y Y (B8 _).symm Y ?_|fail)
 exact Ai Y (A1x _)
theorem Ajo (x:Entry) (hk:x.kind=5) (hm:B9 x=true) (ha:x.b.recs.length<=1000000) (hp:x.prod.seen.length<=1000000):A17 173 [.agg (Ah (Az x))] [] (.tuple [.t (.str ([5]++BK [x.row.pid,x.row.seq]++DT x.row.key++DT x.row.value)),.t (.int .i64 0)]) []:=by
 have hma:=(CU hm).2
 simp only[hk,if_true,Int.reduceEq,if_false]at hma
 have hkb:=Mf (k:=x.kind) (kb:=5) hk
 have hS1:Sub (.t (.slice .full 1 (Bq 1 1 [T.int .u8 (IntKind.u8.wrap x.kind)]))) (.t (.slice .any 1 ([5].map A7))):=hkb▸Ar
 refine ct0 Ag Tryz.func173 Y false Y Y ?_
 have cm:A17 235 [.agg (Ah (Az x))] [] (.t (.bool true)) []:=hm▸HL x ha hp
 simp only[FD,decide_eq_true_eq]at hma
 have hnl:(BK [x.row.pid,x.row.seq]).length<=100:=by
  have l1:=AC (n:=x.row.pid.toNat) Aa
  have l2:=AC (n:=x.row.seq.toNat) Aa
  simp[BK];omega
 have hl6:=ES (s:=x.row.key) Aa
 repeat'(first|exact prB|refine stC ?_|refine stU (fun h=>?_) fun h=>?_|refine stL ?_ (c:=cm)|refine BG Ag Y Y Y Y (Ee [5] [x.row.pid,x.row.seq] (by simp;omega) Ac Ac) Y Y Y ⟨hS1,Ar,trivial⟩ ?_|refine stL ?_ (c:=PD _ x.row.key Aa (by simp only[List.length_append,List.length_cons,List.length_nil,Ch];omega))|refine stL ?_ (c:=PD _ x.row.value Aa (by simp only[List.length_append,List.length_cons,List.length_nil,Ch];omega))|refine Ci Ag Y Y Y Y Y Y (B8 _).symm Y ?_|fail)
 exact Ai Y (A1x _)
theorem Jy {next:Int} (h0:0<=next) (h1:next<=1048576): ∀{l:List Seen},BE next l=true-> ∀s∈l,Cn s/\s.seq<=1048576
 |[],_,s,hs=>by simp at hs
 |t::r,h,s,hs=>by
  have hb:=Fx h0 h1 h
  simp only[BE,Bool.and_eq_true,decide_eq_true_eq]at h
  rcases List.mem_cons.1 hs with rfl|hs
  ·exact⟨h.1.1,hb.2⟩
  ·exact Jy h0 h1 h.2 s hs
theorem Acm {s:Seen} (h:Cn s) (h1:s.seq<=1048576):(JT s).length<=18:=by
 unfold Cn at h
 have l1:=AC (n:=s.seq.toNat) Aa
 have l2:=AC (n:=s.count.toNat) Aa
 have l3:=AC (n:=(s.base+1).toNat) Aa
 simp[JT,BK];omega
theorem KM: ∀{l:List Seen},(∀s∈l,Cn s/\s.seq<=1048576)->(l.flatMap JT).length<=18*l.length
 |[],_=>by simp
 |s::l,h=>by
  have ih:=KM (l:=l) fun t ht=>h t (List.mem_cons_of_mem _ ht)
  have h1:=h s Ac
  have h2:=Acm h1.1 h1.2
  simp only[List.flatMap_cons,List.length_append,List.length_cons];omega
theorem Ajn (x:Entry) (hk:x.kind=6) (hm:B9 x=true) (ha:x.b.recs.length<=1000000) (hp:x.prod.seen.length<=1000000):A17 173 [.agg (Ah (Az x))] [] (.tuple [.t (.str ([6]++BK [x.prod.pid,x.prod.epoch,x.prod.next,(x.prod.seen.length:Int)]++x.prod.seen.flatMap JT)),.t (.int .i64 0)]) []:=by
 have hma:=(CU hm).2
 simp only[hk,if_true,Int.reduceEq,if_false,true_and]at hma
 simp only[C1,Bool.and_eq_true,decide_eq_true_eq]at hma
 obtain⟨hbd,hch⟩:=hma
 unfold Cx at hbd
 have hsn:=Jy Aa Aa hch
 have hkb:=Mf (k:=x.kind) (kb:=6) hk
 have hS1:Sub (.t (.slice .full 1 (Bq 1 1 [T.int .u8 (IntKind.u8.wrap x.kind)]))) (.t (.slice .any 1 ([6].map A7))):=hkb▸Ar
 have hlm:(x.prod.seen.map AM).length=x.prod.seen.length:=List.length_map ..
 have hnl:(BK [x.prod.pid,x.prod.epoch,x.prod.next,(x.prod.seen.length:Int)]).length<=100:=by
  have l1:=AC (n:=x.prod.pid.toNat) Aa
  have l2:=AC (n:=x.prod.epoch.toNat) Aa
  have l3:=AC (n:=x.prod.next.toNat) Aa
  have l4:=AC (n:=x.prod.seen.length) Aa
  simp[BK];omega
 have hsx:Sub (.t (.slice .full 1 (Bq 1 4 [T.int .i64 x.prod.pid,T.int .i64 x.prod.epoch,T.int .i64 x.prod.next,T.int .i64 ((x.prod.seen.map AM).length:Int)]))) (.t (.slice .any 1 ([x.prod.pid,x.prod.epoch,x.prod.next,(x.prod.seen.length:Int)].map Vu))):=by
  rw[hlm];exact Ar
 refine ct0 Ag Tryz.func173 Y false Y Y ?_
 have cm:A17 235 [.agg (Ah (Az x))] [] (.t (.bool true)) []:=hm▸HL x ha hp
 repeat'(first|exact prB|refine stC ?_|refine stU (fun h=>?_) fun h=>?_|refine stL ?_ (c:=cm)|refine BG Ag Y Y Y Y (Ee [6] [x.prod.pid,x.prod.epoch,x.prod.next,(x.prod.seen.length:Int)] (by simp;omega) Ac Ac) Y Y Y ⟨hS1,hsx,trivial⟩ ?_|fail)
 refine A3 (ι:=Nat) (fun i=>i<=x.prod.seen.length) (fun i=>[(1,.ref 2 0),(4,.t (.slice .any 1 (([6]++BK [x.prod.pid,x.prod.epoch,x.prod.next,(x.prod.seen.length:Int)]++(x.prod.seen.take i).flatMap JT).map A7))),(7,.t (.int .i64 i))]) (fun _=>[(2,.cells (Ah (Az x)))]) (fun i=>x.prod.seen.length-i) 0 Ac ?_ ?_
 ·exact AE [] (Af Y Y (Af Y Ac (Af Y Y Aj))) Y
 rintro i hi
 by_cases hlt:i<x.prod.seen.length
 ·have hr:x.prod.seen[i]?=some x.prod.seen[i]:=List.getElem?_eq_getElem hlt
  have hrok:=hsn x.prod.seen[i] (List.getElem_mem hlt)
  generalize x.prod.seen[i]=r at hr hrok
  have hok:=hrok.1;unfold Cn at hok
  have hl5:=KM (l:=x.prod.seen.take i) fun s hs=>hsn s (List.mem_of_mem_take hs)
  rw[List.length_take]at hl5
  have hsy:Sub (.t (.slice .full 1 (Bq 1 3 [T.int .i64 r.seq,T.int .i64 r.count,T.int .i64 (IntKind.i64.wrap (r.base+1))]))) (.t (.slice .any 1 ([r.seq,r.count,r.base+1].map Vu))):=by
   rw[An Aa Aa];exact Ar
  repeat'(first|exact prB|refine stC ?_|refine stU (fun h=>?_) fun h=>?_|refine BG Ag Y Y Y Y (Ee _ [r.seq,r.count,r.base+1] (by simp;omega) Ac (by simp only[List.length_append,List.length_cons,List.length_nil,Ch];omega)) Y Y Y ⟨A1x _,hsy,trivial⟩ ?_|fail)
  refine Ay (i+1) Aa Aa [8] (Af Y Y (Af Y ?_ (Af Y ?_ Aj))) Y
  ·rw[A5 hr,List.flatMap_append];simp only[List.flatMap_cons,List.flatMap_nil,List.append_nil,<-List.append_assoc];rfl
  ·rw[An Aa Aa];rfl
 ·repeat'(first|exact prB|refine stC ?_|refine stU (fun h=>?_) fun h=>?_|refine Ci Ag Y Y Y Y Y Y (B8 _).symm Y ?_|fail)
  refine Ai Y (A1y ?_);rw[List.take_of_length_le Aa]
theorem Uk (x:Entry) (hm:B9 x=true) (ha:x.b.recs.length<=1000000) (hp:x.prod.seen.length<=1000000):A17 173 [.agg (Ah (Az x))] [] (.tuple [.t (.str (Bx x)),.t (.int .i64 0)]) []:=by
 unfold Bx
 rcases T1 hm with h|h|h|h|h|h|h
 ·have:=Ajt x h hm ha hp;simpa[h]using this
 ·have:=Ajs x h hm ha hp;simpa[h]using this
 ·have:=Ajr x h hm ha hp;simpa[h]using this
 ·have:=Ajq x h hm ha hp;simpa[h]using this
 ·have:=Ajp x h hm ha hp;simpa[h]using this
 ·have:=Ajo x h hm ha hp;simpa[h]using this
 ·have:=Ajn x h hm ha hp;simpa[h]using this
theorem Aeu (x:Entry) (hm:B9 x=false) (ha:x.b.recs.length<=1000000) (hp:x.prod.seen.length<=1000000):A17 173 [.agg (Ah (Az x))] [] (.tuple [.t (.str []),.t (.int .i64 2)]) []:=by
 refine ct0 Ag Tryz.func173 Y false Y Y ?_
 have cm:A17 235 [.agg (Ah (Az x))] [] (.t (.bool false)) []:=hm▸HL x ha hp
 repeat'(first|exact prB|refine stC ?_|refine stU (fun h=>?_) fun h=>?_|refine stL ?_ (c:=cm)|fail)
 exact Ai Y (A1x _)
def RP (s:Bs):Bs:=[UInt8.ofNat (s.length % 256),UInt8.ofNat (s.length/256),0,0]++s
theorem Aj7 (n:Nat) (h:n<9223372036854775808):(BitVec.ofInt 64 (n:Int)&&&BitVec.ofInt 64 255).toNat=n % 256:=by
 rw[BitVec.toNat_and]
 have h1:(BitVec.ofInt 64 (n:Int)).toNat=n:=by simp[BitVec.toNat_ofInt];omega
 have h2:(BitVec.ofInt 64 255).toNat=255:=rfl
 rw[h1,h2]
 exact Nat.and_two_pow_sub_one_eq_mod n 8
theorem Asn {n:Nat} (h:n<=1024):T.int .u8 (IntKind.u8.wrap (IntKind.i64.wrap (((BitVec.ofInt 64 (n:Int)&&&BitVec.ofInt 64 255).toNat:Nat):Int)))=T.int .u8 ((UInt8.ofNat (n % 256)).toNat:Int):=by
 rw[Aj7 n Aa]
 exact NN (by rw[An Aa Aa]) Aa
theorem As1 {n:Nat} (h:n<=1024):T.int .u8 (IntKind.u8.wrap (IntKind.i64.wrap (((BitVec.ofInt 64 ((n:Int).fdiv (2^8))&&&BitVec.ofInt 64 255).toNat:Nat):Int)))=T.int .u8 ((UInt8.ofNat (n/256)).toNat:Int):=by
 have e:(n:Int).fdiv (2^8)=((n/256:Nat):Int):=by
  have h8:(2:Int)^8=256:=by decide
  rw[h8,Int.fdiv_eq_ediv_of_nonneg _ Ae];omega
 rw[e,Aj7 (n/256) Aa]
 exact NN (by rw[An Aa Aa];omega) Aa
theorem hch {n:Nat} {a b:Int} (h1:T.int .u8 a=T.int .u8 ((UInt8.ofNat (n % 256)).toNat:Int)) (h2:T.int .u8 b=T.int .u8 ((UInt8.ofNat (n/256)).toNat:Int)):Bq 1 4 [T.int .u8 a,T.int .u8 b,T.int .u8 0,T.int .u8 0]=Dt [UInt8.ofNat (n % 256),UInt8.ofNat (n/256),0,0]:=by
 rw[h1,h2];rfl
theorem O1 (s:Bs) (h:s.length<=1024):A17 170 [.t (.str s)] [] (.tuple [.t (.str (RP s)),.t (.int .i64 0)]) []:=by
 refine ct0 Ag Tryz.func170 Y false Y Y ?_
 have e1:=Asn h
 have e2:=As1 h
 repeat'(first|exact prB|refine stC ?_|refine stU (fun h=>?_) fun h=>?_|refine Ci (s:=[UInt8.ofNat (s.length % 256),UInt8.ofNat (s.length/256),0,0]) Ag Y Y Y Y Y Y (hch e1 e2) Y ?_|refine Qu Ag Y Y Y Y Y (by simp;omega) ?_|fail)
 exact Ai Y (A1x _)
theorem H5 {x:Entry} (hm:B9 x=true):(Bx x).length<=1024:=by
 have hma:=(CU hm).2
 have v1: ∀n:Int,0<=n->n<=1099511627776->(AY n.toNat).length<=6:=fun n h0 h1=>AC Aa
 unfold Bx
 rw[List.length_cons]
 split at hma
 ·rename_i hk;rw[if_pos hk];have:=En hma;omega
 rename_i hk0;rw[if_neg hk0]
 split at hma
 ·rename_i hk;rw[if_pos hk]
  have a1:=v1 x.b.pid Aa Aa
  have a2:=v1 x.b.epoch Aa Aa
  simp[BK,Ch];omega
 rename_i hk1;rw[if_neg hk1]
 split at hma
 ·rename_i hk;rw[if_pos hk]
  have a1:=v1 x.offset Aa Aa
  simp[BK];omega
 rename_i hk2;rw[if_neg hk2]
 split at hma
 ·rename_i hk;rw[if_pos hk]
  have:=En hma.1
  have a1:=v1 x.next Aa Aa
  split<;>simp[BK,Ch]<;>omega
 rename_i hk3;rw[if_neg hk3]
 split at hma
 ·rename_i hk;rw[if_pos hk]
  have a1:=v1 x.b.pid Aa Aa
  have a2:=v1 x.b.epoch Aa Aa
  have a3:=v1 x.next Aa Aa
  simp[BK];omega
 rename_i hk4;rw[if_neg hk4]
 split at hma
 ·rename_i hk;rw[if_pos hk]
  simp only[FD,decide_eq_true_eq]at hma
  have a1:=v1 x.row.pid Aa Aa
  have a2:=v1 x.row.seq Aa Aa
  have a3:=ES (s:=x.row.key) Aa
  have a4:=ES (s:=x.row.value) Aa
  simp[BK];omega
 rename_i hk5;rw[if_neg hk5]
 obtain⟨_,hma⟩:=hma
 simp only[C1,Bool.and_eq_true,decide_eq_true_eq]at hma
 obtain⟨hbd,hch⟩:=hma
 unfold Cx at hbd
 have hs:=KM (Jy Aa Aa hch)
 have a1:=v1 x.prod.pid Aa Aa
 have a2:=v1 x.prod.epoch Aa Aa
 have a3:=v1 x.prod.next Aa Aa
 have a4:=v1 x.prod.seen.length Aa Aa
 rw[List.length_append]
 have:(BK [x.prod.pid,x.prod.epoch,x.prod.next,(x.prod.seen.length:Int)]).length<=24:=by simp[BK]at*;omega
 omega
def HS (name:Bs) (x:Entry):Wr:=⟨0,name,RP (Bx x),0⟩
def Dp (name:Bs) (l:List Entry):List Wr:=l.map (HS name)++[⟨1,name,[],0⟩]
def NW (name:Bs) (l:List Entry):List Wr:=if l≠[]/\l.all B9=true then Dp name l else[]
def P9 (l:List Entry):Int:=if l≠[]/\l.all B9=true then 0 else 2
def DW (x:Entry):Prop:=x.b.recs.length<=1000000/\x.prod.seen.length<=1000000
theorem Ag4 (name:Bs) (l:List Entry) (hl:l.length<=1000000) (hsm: ∀x∈l,DW x):A17 102 [.t (.str name),.t (.slice .any 18 (l.map Az))] [] (.tuple [.t (.slice .any 4 ((NW name l).map AF)),.t (.int .i64 (P9 l))]) []:=by
 refine ct0 Ag Tryz.func102 Y false Y Y ?_
 have hlm:(l.map Az).length=l.length:=List.length_map ..
 repeat'(first|exact prB|refine stC ?_|refine stU (fun h=>?_) fun h=>?_|fail)
 ·have hn:l=[]:=List.eq_nil_of_length_eq_zero Aa
  subst hn
  refine Ai Y ?_
  simp only[NW,P9]
  exact Ap ⟨Ak,A1x _,trivial⟩
 have hne:l≠[]:=fun e=>by subst e;simp at h
 refine A1z 6 42 4 Y Y ?_
 refine A3 (ι:=Nat) (fun i=>i<=l.length/\(l.take i).all B9=true) (fun i=>[(0,.t (.str name)),(1,.t (.slice .any 18 (l.map Az))),(6,.row 84 4 0 (((l.take i).map (HS name)).map AF).length),(7,.t (.int .i64 i))]) (fun i=>[(84,.grow 4 (((l.take i).map (HS name)).map AF))]) (fun i=>l.length-i) 0 Ac ?_ ?_
 ·exact AE [] (Af Y Y (Af Y Y (Af Y Y (Af Y Y Aj)))) Y
 rintro i ⟨hi,hall⟩
 by_cases hlt:i<l.length
 ·have hr:l[i]?=some l[i]:=List.getElem?_eq_getElem hlt
  have hs:=hsm l[i] (List.getElem_mem hlt)
  generalize l[i]=r at hr hs
  cases hm:B9 r with
  |false=>
   repeat'(first|exact prB|refine stC ?_|refine stU (fun h=>?_) fun h=>?_|refine stL ?_ (c:=Aeu r hm hs.1 hs.2)|fail)
   have hno:l.all B9=false:=Qp hr hm
   refine Ai Y ?_
   simp only[NW,P9,hno,Bool.false_eq_true,and_false,if_false]
   exact Ap ⟨Ak,A1x _,trivial⟩
  |true=>
   repeat'(first|exact prB|refine stC ?_|refine stU (fun h=>?_) fun h=>?_|refine stL ?_ (c:=Uk r hm hs.1 hs.2)|refine stL ?_ (c:=O1 _ (H5 hm))|fail)
   refine Ay (i+1) ⟨hlt,KB hr hall hm⟩ Aa [] (Af Y Y (Af Y Y (Af Y ?_ (Af Y ?_ Aj)))) ?_
   ·rw[A5 hr];simp[Bq]
   ·rw[An Aa Aa];rfl
   ·rw[A5 hr];simp[Bq,JK,AF,HS,EY,CP]
 ·repeat'(first|exact prB|refine stC ?_|refine stU (fun h=>?_) fun h=>?_|fail)
  have hall':=VA Aa hall
  refine Ai Y (A1y ?_)
  simp only[NW,P9,hne,hall',ne_eq,not_false_eq_true,and_self,if_true]
  rw[List.take_of_length_le Aa]
  simp[B5,Dp,Bq,JK,AF,HS]
  exact List.take_of_length_le Ac
theorem Ato (n:Nat) (h:n<9223372036854775808):(BitVec.ofInt 64 (n:Int)&&&BitVec.ofInt 64 127).toNat=n % 128:=by
 rw[BitVec.toNat_and]
 have h1:(BitVec.ofInt 64 (n:Int)).toNat=n:=by simp[BitVec.toNat_ofInt];omega
 have h2:(BitVec.ofInt 64 127).toNat=127:=rfl
 rw[h1,h2]
 exact Nat.and_two_pow_sub_one_eq_mod n 7
theorem Aym (n:Nat) (h:n<128):(BitVec.ofInt 64 (n:Int)|||BitVec.ofInt 64 128).toNat=128+n:=by
 rw[BitVec.toNat_or]
 have h1:(BitVec.ofInt 64 (n:Int)).toNat=n:=by simp[BitVec.toNat_ofInt];omega
 have h2:(BitVec.ofInt 64 128).toNat=128:=rfl
 rw[h1,h2]
 have:=Nat.two_pow_add_eq_or_of_lt (i:=7) (b:=n) Aa 1
 simp at this
 rw[Nat.or_comm];exact this.symm
theorem Ax9 (n:Nat):(n:Int).fdiv (2^7)=((n/128:Nat):Int):=by
 have h8:(2:Int)^7=128:=by decide
 rw[h8,Int.fdiv_eq_ediv_of_nonneg _ Ae];omega
theorem Ahr {n:Nat} (h:n<9223372036854775808):T.int .u8 (IntKind.u8.wrap (IntKind.i64.wrap (((BitVec.ofInt 64 (IntKind.i64.wrap (((BitVec.ofInt 64 (n:Int)&&&BitVec.ofInt 64 127).toNat:Nat):Int))|||BitVec.ofInt 64 128).toNat:Nat):Int)))=T.int .u8 ((UInt8.ofNat (128+n % 128)).toNat:Int):=by
 have hw:IntKind.i64.wrap ((n % 128:Nat):Int)=((n % 128:Nat):Int):=An Aa Aa
 rw[Ato n h,hw,Aym (n % 128) Aa]
 exact NN (by rw[An Aa Aa]) Aa
theorem Asp (n:Int):A17 352 [.t (.int .i64 n)] [] (.t (.int .i64 (if 0<=n/\n<=1099511627776 then((AY n.toNat).length:Int)else 0))) []:=by
 refine ct0 Ag Tryz.func352 Y false Y Y ?_
 repeat'(first|exact prB|refine stC ?_|refine stU (fun h=>?_) fun h=>?_|fail)
 ·refine Ai Y (A1y ?_);rw[if_neg Aa]
 ·obtain⟨n,rfl⟩:=Int.eq_ofNat_of_zero_le (by omega:0<=n)
  rw[if_pos ⟨by omega,by omega⟩]
  have hl:=AC (n:=n) Aa
  refine A3 (ι:=Nat×Nat) (fun p=>p.1<=1099511627776/\p.2+(AY p.1).length=(AY n).length+1) (fun p=>[(0,.t (.int .i64 p.1)),(3,.t (.int .i64 p.2))]) (fun _=>[]) (fun p=>p.1) (n,1) ⟨by simp;omega,by simp;omega⟩ ?_ ?_
  ·exact AE [] (Af Y Y (Af Y Y Aj)) Y
  rintro⟨m,s⟩ ⟨hm,he⟩
  simp only at hm he
  repeat'(first|exact prB|refine stC ?_|refine stU (fun h=>?_) fun h=>?_|fail)
  ·rw[Mu (n:=m) Aa,List.length_cons]at he
   refine Ay (m/128,s+1) ⟨by simp;omega,by simp;omega⟩ (by simp;omega) [] (Af Y (congrArg (fun z=>AV.t (T.int .i64 z)) (Ax9 m)) (Af Y ?_ Aj)) Y
   rw[An (by simp;omega) (by simp;omega)];rfl
  ·rw[KG (n:=m) Aa]at he
   refine Ai Y (A1y ?_)
   simp at he⊢;omega
 ·refine Ai Y (A1y ?_);rw[if_neg Aa]
theorem Ak1 (b:Bs) (n:Nat) (hn:n<=1099511627776) (hb:b.length<=1000000000):
  A17 353 [.row 1 1 0 (b.map A7).length,.t (.int .i64 n)] [(1,.grow 1 (b.map A7))] (.row 1 1 0 ((b++AY n).map A7).length) [(1,.grow 1 ((b++AY n).map A7))]:=by
 refine ct1 Ag Tryz.func353 Y Y ?_
 have hl:=AC hn
 repeat'(first|exact prB|refine stC ?_|refine stU (fun h=>?_) fun h=>?_|fail)
 refine A3 (ι:=Nat×Bs) (fun p=>p.1<=1099511627776/\p.2++AY p.1=b++AY n) (fun p=>[(1,.t (.int .i64 p.1)),(0,.row 1 1 0 (p.2.map A7).length)]) (fun p=>[(1,.grow 1 (p.2.map A7))]) (fun p=>p.1) (n,b) ⟨hn,Y⟩ ?_ ?_
 ·exact AE [] (Af Y Y (Af Y Y Aj)) Y
 rintro⟨m,out⟩ ⟨hm,he⟩
 simp only at hm he
 have hol:out.length<=b.length+6:=by have:=congrArg List.length he;simp at this;omega
 repeat'(first|exact prB|refine stC ?_|refine stU (fun h=>?_) fun h=>?_|fail)
 ·refine Ay (m/128,out++[UInt8.ofNat (128+m % 128)]) ⟨by simp;omega,?_⟩ (by simp;omega) [] (Af Y (congrArg (fun z=>AV.t (T.int .i64 z)) (Ax9 m)) (Af Y (by simp[Bq]) Aj)) ?_
  ·simp only;rw[<-he,Mu (n:=m) Aa];simp
  ·have e1:=Ahr (n:=m) Aa
   simp only[List.map_append,List.map_cons,List.map_nil]
   exact congrArg (fun z=>[(1,Blk.grow 1 (List.map A7 out++[[z]]))]) e1
 ·have e2:out++[UInt8.ofNat m]=b++AY n:=by rw[<-he,KG Aa]
  have e1:=NN (n:=(m:Int)) (m:=m) Y Aa
  refine Ba [] Y Y ?_ (A1y ?_)
  ·rw[<-e2];simp[Bq,ti5,A7,EY,CP,e1]
  ·rw[<-e2];simp[Bq]
theorem Af2 (n:Nat):1<=(AY n).length:=by
 by_cases h:n<128
 ·rw[KG h];simp
 ·rw[Mu h];simp
theorem Al1 (n:Nat) (hn:n<=1099511627776):A17 352 [.t (.int .i64 n)] [] (.t (.int .i64 ((AY n).length:Int))) []:=by
 have:=Asp n
 rw[if_pos ⟨by omega,by omega⟩]at this
 exact this
theorem Aai (b:Bs) (n:Nat) (hn:n<=1099511627776) (hb:b.length<=1000000000):
  A17 328 [.t (.slice .any 1 (b.map A7)),.t (.int .i64 n)] [] (.tuple [.row 36 1 0 ((b++AY n).map A7).length,.t (.int .i64 0)]) [(36,.grow 1 ((b++AY n).map A7))]:=by
 refine ct1 Ag Tryz.func328 Y Y ?_
 have hl:=AC hn
 have hl1:=Af2 n
 have hlm:(b.map A7).length=b.length:=List.length_map ..
 have hcn:IntKind.i64.wrap (((b.map A7).length:Int)+((AY n).length:Int))=(((b.map A7).length+(AY n).length:Nat):Int):=by
  rw[An Aa Aa];omega
 repeat'(first|exact prB|refine stC ?_|refine stU (fun h=>?_) fun h=>?_|refine stL ?_ (c:=Al1 n hn)|refine Dn Ag Y Y Y Y Y Y Y Y hcn Y Y Aa Aa ?_|refine Art Ag Y Y Y Y Y Y Y Y Y Y Ac Ac Y ?_|refine A0 Ag [(36,1)] [(1,36)] Y Y Y Y Y (Ak1 b n hn hb) Y Y Y Y Y ?_|fail)
 refine Ba [] Y Y Y (A1x _)
theorem Af5 (b:Bs) (n:Int) (h0:0<=n) (hn:n<=1099511627776) (hb:b.length<=1000000000):
  A17 328 [.t (.slice .any 1 (b.map A7)),.t (.int .i64 n)] [] (.tuple [.t (.slice .any 1 ((b++AY n.toNat).map A7)),.t (.int .i64 0)]) []:=by
 obtain⟨m,rfl⟩:=Int.eq_ofNat_of_zero_le h0
 exact(Aai b m Aa hb).freeze2
theorem DG (b:Bs) (n:Int) (h0:0<=n) (hn:n<=1099511627776) (hb:b.length<=1000000000):
  A17 279 [.t (.slice .any 1 (b.map A7)),.t (.int .i64 n)] [] (.tuple [.t (.slice .any 1 ((b++AY n.toNat).map A7)),.t (.int .i64 0)]) []:=by
 refine ct0 Ag Tryz.func279 Y false Y Y ?_
 repeat'(first|exact prB|refine stC ?_|refine stU (fun h=>?_) fun h=>?_|refine stL ?_ (c:=Af5 _ _ h0 hn hb)|fail)
 exact Ai Y (A1x _)
theorem RN (b s:Bs) (hs:s.length<=1024) (hb:b.length<=1000000000):
  A17 301 [.t (.slice .any 1 (b.map A7)),.t (.str s)] [] (.tuple [.t (.slice .any 1 ((b++DT s).map A7)),.t (.int .i64 0)]) []:=by
 refine ct0 Ag Tryz.func301 Y false Y Y ?_
 have hl:=AC (n:=s.length) Aa
 repeat'(first|exact prB|refine stC ?_|refine stU (fun h=>?_) fun h=>?_|refine A0 Ag [] [(36,30)] Y Y Y Y Y (Aai _ s.length Aa hb) Y Y Y Y Y ?_|refine VL Ag Y Y Y Y Y Y Y Y Y Y Y Y Y Y (by simp[DI];omega) ?_|fail)
 refine Ai Y (A1y ?_)
 simp[B5,DT,B8]
 exact List.take_of_length_le Ac
theorem Al8 (n:Nat) (h0:0<n) (hn:n<=10000000000):
  A17 360 [.t (.slice .nil 0 []),.t (.int .i64 n)] [] (.row 44 1 0 0) [(44,.grow 1 [])]:=by
 refine ct1 Ag Tryz.func360 Y Y ?_
 have hw:IntKind.i64.wrap ((n:Int)-IntKind.i64.wrap (0-((([]:List (List T)).length:Nat):Int)))=(n:Int):=by
  have:IntKind.i64.wrap (0-((([]:List (List T)).length:Nat):Int))=0:=by rw[An Ac Ac];simp
  rw[this,An Aa Aa];omega
 repeat'(first|exact prB|refine stC ?_|refine stU (fun h=>?_) fun h=>?_|refine Af0 Ag Y Y Y Y Y Y Y Y ?_|refine Ux Ag Y Y Y Y Y Y Y Y Y Y Y hw Y Y h0 Aa ?_|fail)
 exact Ba [] Y Y Y (A1x _)
def Pv (b:Bs):List T:=[.slice .any 1 (b.map A7)]
theorem LB {l:List Bs} {i:Nat}:(l.take i).flatten.length<=l.flatten.length:=by
 have:l.flatten=(l.take i).flatten++(l.drop i).flatten:=by rw[<-List.flatten_append,List.take_append_drop]
 rw[this,List.length_append];omega
theorem K1 {l:List Bs} {i:Nat} {b:Bs} (h:l[i]?=some b):(l.take (i+1)).flatten=(l.take i).flatten++b:=by
 rw[A5 h,List.flatten_append];simp
theorem Aeq (l:List Bs) (h0:0<l.flatten.length) (hn:l.flatten.length<=10000000000) (hll:l.length<=1000000):
  A17 341 [.t (.slice .any 1 (l.map Pv))] [] (.t (.slice .any 1 (l.flatten.map A7))) []:=by
 refine ct0 Ag Tryz.func341 Y false Y Y ?_
 have hlm:(l.map Pv).length=l.length:=List.length_map ..
 repeat'(first|exact prB|refine stC ?_|refine stU (fun h=>?_) fun h=>?_|fail)
 refine A3 (ι:=Nat) (fun i=>i<=l.length) (fun i=>[(0,.t (.slice .any 1 (l.map Pv))),(9,.t (.slice .any 1 (l.map Pv))),(10,.t (.int .i64 ((l.map Pv).length:Int))),(11,.t (.int .i64 i)),(3,.t (.int .i64 ((l.take i).flatten.length:Int)))]) (fun _=>[]) (fun i=>l.length-i) 0 Ac ?_ ?_
 ·exact AE [] (Af Y Y (Af Y Y (Af Y Y (Af Y Y (Af Y Y Aj))))) Y
 rintro i hi
 by_cases hlt:i<l.length
 ·have hr:l[i]?=some l[i]:=List.getElem?_eq_getElem hlt
  generalize l[i]=r at hr
  have hs:=K1 hr
  have hsl:=congrArg List.length hs
  rw[List.length_append]at hsl
  have hle:=LB (l:=l) (i:=i+1)
  have hrm:(r.map A7).length=r.length:=List.length_map ..
  have hw:IntKind.i64.wrap (((l.take i).flatten.length:Int)+((r.map A7).length:Int))=((l.take (i+1)).flatten.length:Int):=by
   rw[An Aa Aa];omega
  repeat'(first|exact prB|refine stC ?_|refine stU (fun h=>?_) fun h=>?_|fail)
  refine Ay (i+1) Aa Aa [] (Af Y Y (Af Y Y (Af Y Y (Af Y ?_ (Af Y (congrArg (fun z=>AV.t (T.int .i64 z)) hw) Aj))))) Y
  rw[An Aa Aa];rfl
 ·have hall:l.take i=l:=List.take_of_length_le Aa
  repeat'(first|exact prB|refine stC ?_|refine stU (fun h=>?_) fun h=>?_|refine A0 Ag [] [(44,48)] Y Y Y Y Y (Al8 (l.take i).flatten.length (by rw[hall];exact h0) (by rw[hall];exact hn)) Y Y Y Y Y ?_|fail)
  refine A3 (ι:=Nat) (fun j=>j<=l.length) (fun j=>[(25,.t (.slice .any 1 (l.map Pv))),(26,.t (.int .i64 ((l.map Pv).length:Int))),(27,.t (.int .i64 j)),(6,.row 48 1 0 (((l.take j).flatten).map A7).length)]) (fun j=>[(48,.grow 1 (((l.take j).flatten).map A7))]) (fun j=>l.length-j) 0 Ac ?_ ?_
  ·exact AE [] (Af Y Y (Af Y Y (Af Y Y (Af Y Y Aj)))) Y
  rintro j hj
  by_cases hlt2:j<l.length
  ·have hr:l[j]?=some l[j]:=List.getElem?_eq_getElem hlt2
   generalize l[j]=r at hr
   have hs:=K1 hr
   have hsl:=congrArg List.length hs
   rw[List.length_append]at hsl
   have hle:=LB (l:=l) (i:=j+1)
   repeat'(first|exact prB|refine stC ?_|refine stU (fun h=>?_) fun h=>?_|refine VM Ag Y Y Y Y Y Y Y Y Y Y Y Y Y Y (by simp only[List.length_append,List.length_map];omega) ?_|fail)
   refine Ay (j+1) Aa Aa [] (Af Y Y (Af Y Y (Af Y ?_ (Af Y ?_ Aj)))) ?_
   ·rw[An Aa Aa];rfl
   ·rw[hs,List.map_append]
   ·rw[hs,List.map_append];rfl
  ·have hall2:l.take j=l:=List.take_of_length_le Aa
   repeat'(first|exact prB|refine stC ?_|refine stU (fun h=>?_) fun h=>?_|fail)
   refine Ai Y (A1y ?_)
   rw[hall2];exact Aij 48 1 _
theorem K5 (b:Bs) (y:Bool) (hb:b.length<=1000000000):
  A17 303 [.t (.slice .any 1 (b.map A7)),.t (.bool y)] [] (.t (.slice .any 1 ((b++Ch y).map A7))) []:=by
 have cc: ∀f:Bs,f.length=1->A17 341 [.t (.slice .any 1 ([b,f].map Pv))] [] (.t (.slice .any 1 ((b++f).map A7))) []:=fun f hf=>by
  have:=Aeq [b,f] (by simp;omega) (by simp;omega) Ac
  simpa using this
 refine ct0 Ag Tryz.func303 Y false Y Y ?_
 refine Ik ?_
 refine L4 Ag Y Y ?_
 refine E6 Ag Y Y Y ?_
 refine Ano ?_
 refine Ik ?_
 refine L4 Ag Y Y ?_
 refine Aky Ag Y Y Y Y Y Y Y Y ?_
 cases y with
 |false=>
  repeat'(first|exact prB|refine stC ?_|refine stU (fun h=>?_) fun h=>?_|refine BG Ag Y Y Y Y (cc [0] Y) Y Y Y ⟨Ar,trivial⟩ ?_|fail)
  exact Ai Y (A1x _)
 |true=>
  repeat'(first|exact prB|refine stC ?_|refine stU (fun h=>?_) fun h=>?_|refine BG Ag Y Y Y Y (cc [1] Y) Y Y Y ⟨Ar,trivial⟩ ?_|fail)
  exact Ai Y (A1x _)
def Gc {α:Type} (p:α->Bool) (l:List α):Int:=match l.findIdx? p with
 |some i=>(i:Int)
 |none=> -1
theorem Vi {α:Type} {p:α->Bool} {l:List α} {i:Nat} {x:α} (h:l[i]?=some x) (ha:(l.take i).any p=false) (hp:p x=true):Gc p l=(i:Int):=by
 have hlt:i<l.length:=(List.getElem?_eq_some_iff.1 h).1
 have:l.findIdx? p=some i:=by
  rw[List.findIdx?_eq_some_iff_getElem]
  refine⟨hlt,by obtain⟨_,rfl⟩:=List.getElem?_eq_some_iff.1 h;exact hp,fun j hj=>?_⟩
  have:=List.any_eq_false.1 ha (l[j]' Aa) (by rw[List.mem_take_iff_getElem];exact⟨j,by omega,Y⟩)
  simpa using this
 simp[Gc,this]
theorem Ku {α:Type} {p:α->Bool} {l:List α} (h:l.any p=false):Gc p l= -1:=by
 have:l.findIdx? p=none:=by
  rw[List.findIdx?_eq_none_iff];intro x hx;have:=List.any_eq_false.1 h x hx;simpa using this
 simp[Gc,this]
theorem Jp {α:Type} (p:α->Bool) (l:List α):(0<=Gc p l)↔l.any p=true:=by
 cases h:l.any p with
 |false=>rw[Ku h];simp
 |true=>
  have: ∃i,l.findIdx? p=some i:=by
   cases hf:l.findIdx? p with
   |some i=>exact⟨i,Y⟩
   |none=>rw[List.findIdx?_eq_none_iff]at hf;rw[List.any_eq_true]at h;obtain⟨x,hx,hp⟩:=h;have:=hf x hx;simp[hp]at this
  obtain⟨i,hi⟩:=this
  simp[Gc,hi]
theorem WQ (fnum:Nat) (cap:List T) (p:Rec->Bool) (l:List Rec) (hl:l.length<=1000000000) (hf: ∀r,A17 fnum (.agg (Ah (AJ r))::Ah cap) [] (.t (.bool (p r))) []) (hfr:D7 (Ah cap)=true):
  A17 304 [.t (.slice .any 2 (l.map AJ)),.t (.func (.func fnum) [] cap)] [] (.t (.int .i64 (Gc p l))) []:=by
 refine ct0 Ag Tryz.func304 Y false Y Y ?_
 have hlm:(l.map AJ).length=l.length:=List.length_map ..
 repeat'(first|exact prB|refine stC ?_|refine stU (fun h=>?_) fun h=>?_|fail)
 refine A3 (ι:=Nat) (fun i=>i<=l.length/\(l.take i).any p=false) (fun i=>[(0,.t (.slice .any 2 (l.map AJ))),(1,.t (.func (.func fnum) [] cap)),(7,.t (.int .i64 ((l.map AJ).length:Int))),(8,.t (.int .i64 i))]) (fun _=>[]) (fun i=>l.length-i) 0 Ac ?_ ?_
 ·exact AE [] (Af Y Y (Af Y Y (Af Y Y (Af Y Y Aj)))) Y
 rintro i ⟨hi,hany⟩
 by_cases hlt:i<l.length
 ·have hr:l[i]?=some l[i]:=List.getElem?_eq_getElem hlt
  generalize l[i]=r at hr
  repeat'(first|exact prB|refine stC ?_|refine stU (fun h=>?_) fun h=>?_|refine Qt Ag Y Y Y Y Y Y hfr (hf r) Y Y ?_|fail)
  ·exact Ai Y (A1y (by rw[Vi hr hany h]))
  ·refine Ay (i+1) ⟨hlt,Du hr hany (by simpa using h)⟩ Aa [] (Af Y Y (Af Y Y (Af Y Y (Af Y ?_ Aj)))) Y
   rw[An Aa Aa];rfl
 ·repeat'(first|exact prB|refine stC ?_|refine stU (fun h=>?_) fun h=>?_|fail)
  exact Ai Y (A1y (by rw[Ku (F0 Aa hany)]))
theorem Si (fnum:Nat) (cap:List T) (p:Rec->Bool) (l:List Rec) (hl:l.length<=1000000000) (hf: ∀r,A17 fnum (.agg (Ah (AJ r))::Ah cap) [] (.t (.bool (p r))) []) (hfr:D7 (Ah cap)=true):
  A17 251 [.t (.slice .any 2 (l.map AJ)),.t (.func (.func fnum) [] cap)] [] (.t (.bool (l.any p))) []:=by
 refine ct0 Ag Tryz.func251 Y false Y Y ?_
 repeat'(first|exact prB|refine stC ?_|refine stU (fun h=>?_) fun h=>?_|refine stL ?_ (c:=WQ fnum cap p l hl hf hfr)|fail)
 refine Ai Y (AP ?_)
 rw[<-Bool.eq_iff_iff.2 ⟨fun h=>(Jp p l).1 (of_decide_eq_true h),fun h=>decide_eq_true ((Jp p l).2 h)⟩]
theorem WP (fnum:Nat) (cap:List T) (p:Row->Bool) (l:List Row) (hl:l.length<=1000000000) (hf: ∀r,A17 fnum (.agg (Ah (A8 r))::Ah cap) [] (.t (.bool (p r))) []) (hfr:D7 (Ah cap)=true):
  A17 268 [.t (.slice .any 5 (l.map A8)),.t (.func (.func fnum) [] cap)] [] (.t (.int .i64 (Gc p l))) []:=by
 refine ct0 Ag Tryz.func268 Y false Y Y ?_
 have hlm:(l.map A8).length=l.length:=List.length_map ..
 repeat'(first|exact prB|refine stC ?_|refine stU (fun h=>?_) fun h=>?_|fail)
 refine A3 (ι:=Nat) (fun i=>i<=l.length/\(l.take i).any p=false) (fun i=>[(0,.t (.slice .any 5 (l.map A8))),(1,.t (.func (.func fnum) [] cap)),(7,.t (.int .i64 ((l.map A8).length:Int))),(8,.t (.int .i64 i))]) (fun _=>[]) (fun i=>l.length-i) 0 Ac ?_ ?_
 ·exact AE [] (Af Y Y (Af Y Y (Af Y Y (Af Y Y Aj)))) Y
 rintro i ⟨hi,hany⟩
 by_cases hlt:i<l.length
 ·have hr:l[i]?=some l[i]:=List.getElem?_eq_getElem hlt
  generalize l[i]=r at hr
  repeat'(first|exact prB|refine stC ?_|refine stU (fun h=>?_) fun h=>?_|refine Qt Ag Y Y Y Y Y Y hfr (hf r) Y Y ?_|fail)
  ·exact Ai Y (A1y (by rw[Vi hr hany h]))
  ·refine Ay (i+1) ⟨hlt,Du hr hany (by simpa using h)⟩ Aa [] (Af Y Y (Af Y Y (Af Y Y (Af Y ?_ Aj)))) Y
   rw[An Aa Aa];rfl
 ·repeat'(first|exact prB|refine stC ?_|refine stU (fun h=>?_) fun h=>?_|fail)
  exact Ai Y (A1y (by rw[Ku (F0 Aa hany)]))
theorem Sg (fnum:Nat) (cap:List T) (p:Row->Bool) (l:List Row) (hl:l.length<=1000000000) (hf: ∀r,A17 fnum (.agg (Ah (A8 r))::Ah cap) [] (.t (.bool (p r))) []) (hfr:D7 (Ah cap)=true):
  A17 197 [.t (.slice .any 5 (l.map A8)),.t (.func (.func fnum) [] cap)] [] (.t (.bool (l.any p))) []:=by
 refine ct0 Ag Tryz.func197 Y false Y Y ?_
 repeat'(first|exact prB|refine stC ?_|refine stU (fun h=>?_) fun h=>?_|refine stL ?_ (c:=WP fnum cap p l hl hf hfr)|fail)
 refine Ai Y (AP ?_)
 rw[<-Bool.eq_iff_iff.2 ⟨fun h=>(Jp p l).1 (of_decide_eq_true h),fun h=>decide_eq_true ((Jp p l).2 h)⟩]
theorem OX (fnum:Nat) (cap:List T) (p:Opn->Bool) (l:List Opn) (hl:l.length<=1000000000) (hf: ∀r,A17 fnum (.agg (Ah (As r))::Ah cap) [] (.t (.bool (p r))) []) (hfr:D7 (Ah cap)=true):
  A17 139 [.t (.slice .any 3 (l.map As)),.t (.func (.func fnum) [] cap)] [] (.t (.int .i64 (Gc p l))) []:=by
 refine ct0 Ag Tryz.func139 Y false Y Y ?_
 have hlm:(l.map As).length=l.length:=List.length_map ..
 repeat'(first|exact prB|refine stC ?_|refine stU (fun h=>?_) fun h=>?_|fail)
 refine A3 (ι:=Nat) (fun i=>i<=l.length/\(l.take i).any p=false) (fun i=>[(0,.t (.slice .any 3 (l.map As))),(1,.t (.func (.func fnum) [] cap)),(7,.t (.int .i64 ((l.map As).length:Int))),(8,.t (.int .i64 i))]) (fun _=>[]) (fun i=>l.length-i) 0 Ac ?_ ?_
 ·exact AE [] (Af Y Y (Af Y Y (Af Y Y (Af Y Y Aj)))) Y
 rintro i ⟨hi,hany⟩
 by_cases hlt:i<l.length
 ·have hr:l[i]?=some l[i]:=List.getElem?_eq_getElem hlt
  generalize l[i]=r at hr
  repeat'(first|exact prB|refine stC ?_|refine stU (fun h=>?_) fun h=>?_|refine Qt Ag Y Y Y Y Y Y hfr (hf r) Y Y ?_|fail)
  ·exact Ai Y (A1y (by rw[Vi hr hany h]))
  ·refine Ay (i+1) ⟨hlt,Du hr hany (by simpa using h)⟩ Aa [] (Af Y Y (Af Y Y (Af Y Y (Af Y ?_ Aj)))) Y
   rw[An Aa Aa];rfl
 ·repeat'(first|exact prB|refine stC ?_|refine stU (fun h=>?_) fun h=>?_|fail)
  exact Ai Y (A1y (by rw[Ku (F0 Aa hany)]))
theorem Sj (fnum:Nat) (cap:List T) (p:Opn->Bool) (l:List Opn) (hl:l.length<=1000000000) (hf: ∀r,A17 fnum (.agg (Ah (As r))::Ah cap) [] (.t (.bool (p r))) []) (hfr:D7 (Ah cap)=true):
  A17 313 [.t (.slice .any 3 (l.map As)),.t (.func (.func fnum) [] cap)] [] (.t (.bool (l.any p))) []:=by
 refine ct0 Ag Tryz.func313 Y false Y Y ?_
 repeat'(first|exact prB|refine stC ?_|refine stU (fun h=>?_) fun h=>?_|refine stL ?_ (c:=OX fnum cap p l hl hf hfr)|fail)
 refine Ai Y (AP ?_)
 rw[<-Bool.eq_iff_iff.2 ⟨fun h=>(Jp p l).1 (of_decide_eq_true h),fun h=>decide_eq_true ((Jp p l).2 h)⟩]
end Go.Proofs.YtmohpcgmdheafaaGreatDoor
