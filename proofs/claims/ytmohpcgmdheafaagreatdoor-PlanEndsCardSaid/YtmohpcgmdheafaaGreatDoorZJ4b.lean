/- Contracts and laws, joined: Pk, Pi, Pj. No condition beside those that each theorem names. -/
import Derived.Test.YtmohpcgmdheafaaGreatDoorZJ4
set_option linter.unusedVariables false
set_option linter.unusedSimpArgs false
set_option maxRecDepth 100000
set_option maxHeartbeats 8000000
namespace Go.Proofs.YtmohpcgmdheafaaGreatDoor
open Go.Am
attribute [local irreducible] Decidable.decide Tr A2 hSK hSW
theorem Aac {x:T} (b:Bs) (n:Int) (hx:Sub (.t x) (.t (.slice .any 1 (b.map A7)))) (h0:0<=n) (hn:n<=1099511627776) (hb:b.length<=1000000000):
  A17 358 [.t (.int .i64 n),.ref 1 0,.ref 3 0] [(1,.cells [.t (.int .i64 0)]),(3,.cells [.t x])] (.tuple []) [(1,.cells [.t (.int .i64 0)]),(3,.cells [.t (.slice .any 1 ((b++AY n.toNat).map A7))])]:=by
 refine ct1 Ag Tryz.func358 Y Y ?_
 repeat'(first|exact prB|refine stC ?_|refine stU (fun h=>?_) fun h=>?_|refine BG Ag Y Y Y Y (DG b n h0 hn hb) Y Y Y ⟨hx,A1x _,trivial⟩ ?_|fail)
 exact AZ [] Y Y Y (A1x _)
theorem VG (b s:Bs) (hs:s.length<=1024) (hb:b.length<=1000000000):
  A17 359 [.t (.str s),.ref 1 0,.ref 3 0] [(1,.cells [.t (.int .i64 0)]),(3,.cells [.t (.slice .any 1 (b.map A7))])] (.tuple []) [(1,.cells [.t (.int .i64 0)]),(3,.cells [.t (.slice .any 1 ((b++DT s).map A7))])]:=by
 refine ct1 Ag Tryz.func359 Y Y ?_
 repeat'(first|exact prB|refine stC ?_|refine stU (fun h=>?_) fun h=>?_|refine stL ?_ (c:=RN b s hs hb)|fail)
 exact AZ [] Y Y Y (A1x _)
theorem Afp (b:Batch) (hb:A9 b=true):A17 338 [.agg (Ah (Au b))] [] (.tuple [.t (.slice .any 1 ((CG b).map A7)),.t .nilIface]) []:=by
 have hm:=hb
 simp only[A9,Bool.and_eq_true,decide_eq_true_eq]at hm
 obtain⟨hbd,hall⟩:=hm
 have hbd':=hbd;unfold CN at hbd'
 have hlm:(b.recs.map AJ).length=b.recs.length:=List.length_map ..
 have l1:=AC (n:=b.pid.toNat) Aa
 have l2:=AC (n:=b.epoch.toNat) Aa
 have l3:=AC (n:=b.seq.toNat) Aa
 have l4:=AC (n:=b.recs.length) Aa
 refine ct0 Ag Tryz.func338 Y false Y Y ?_
 have cm:A17 182 [.agg (Ah (Au b))] [] (.t (.bool true)) []:=hb▸Fl b Aa
 repeat'(first|exact prB|refine stC ?_|refine stU (fun h=>?_) fun h=>?_|refine stD 19 5 ?_|refine stL ?_ (c:=cm)|refine A0 Ag [(10,1),(8,3)] [(1,10),(3,8)] Y Y Y Y Y (Aac [] b.pid Iz Aa Aa Ac) Y Y Y Y Y ?_|refine A0 Ag [(10,1),(8,3)] [(1,10),(3,8)] Y Y Y Y Y (Aac _ _ (A1x _) Aa Aa (by simp only[List.length_append,List.length_cons,List.length_nil,Ch];omega)) Y Y Y Y Y ?_|refine stL ?_ (c:=K5 _ _ (by simp;omega))|fail)
 refine A3 (ι:=Nat) (fun i=>i<=b.recs.length) (fun i=>[(4,.ref 8 0),(5,.ref 10 0),(7,.func (.func 359) [] [.ref 10 0,.ref 8 0]),(40,.t (.slice .any 2 (b.recs.map AJ))),(41,.t (.int .i64 b.recs.length)),(42,.t (.int .i64 i))]) (fun i=>[(10,.cells [.t (.int .i64 0)]),(8,.cells [.t (.slice .any 1 ((AY b.pid.toNat++AY b.epoch.toNat++AY b.seq.toNat++Ch b.txn++AY b.recs.length++(b.recs.take i).flatMap YF).map A7))]),(2,.cells (Ah (Au b)))]) (fun i=>b.recs.length-i) 0 Ac ?_ ?_
 ·refine AE [] (Af Y Y (Af Y Y (Af Y Y (Af Y Y (Af Y (by rw[hlm]) (Af Y Y Aj)))))) ?_
  simp only[hlm,List.take_zero,List.flatMap_nil,List.append_nil]
  rfl
 rintro i hi
 by_cases hlt:i<b.recs.length
 ·have hr:b.recs[i]?=some b.recs[i]:=List.getElem?_eq_getElem hlt
  have hrok:=Iw.1 (List.all_eq_true.1 hall b.recs[i] (List.getElem_mem hlt))
  have hl5:=MH (l:=b.recs.take i) (List.all_eq_true.2 fun x hx=>List.all_eq_true.1 hall x (List.mem_of_mem_take hx))
  rw[List.length_take]at hl5
  generalize b.recs[i]=r at hr hrok
  have hl6:=ES (s:=r.key) Aa
  repeat'(first|exact prB|refine stC ?_|refine stU (fun h=>?_) fun h=>?_|refine stD 19 5 ?_|refine A0 Ag [(10,1),(8,3)] [(1,10),(3,8)] Y Y Y Y Y (VG _ r.key Aa (by simp only[List.length_append,List.length_cons,List.length_nil,Ch];omega)) Y Y Y Y Y ?_|refine A0 Ag [(10,1),(8,3)] [(1,10),(3,8)] Y Y Y Y Y (VG _ r.value Aa (by simp only[List.length_append,List.length_cons,List.length_nil,Ch];omega)) Y Y Y Y Y ?_|fail)
  refine Ay (i+1) Aa Aa [9] (Af Y Y (Af Y Y (Af Y Y (Af Y Y (Af Y Y (Af Y ?_ Aj)))))) ?_
  ·rw[An Aa Aa];rfl
  ·rw[A5 hr];simp only[List.flatMap_append,List.flatMap_cons,List.flatMap_nil,List.append_nil,YF,<-List.append_assoc];rfl
 ·repeat'(first|exact prB|refine stC ?_|refine stU (fun h=>?_) fun h=>?_|refine stD 19 5 ?_|fail)
  refine Ai Y (A1y ?_);rw[List.take_of_length_le Aa];rfl
theorem Tq (b:Batch) (hb:A9 b=true):A17 300 [.agg (Ah (Au b))] [] (.tuple [.t (.str (CG b)),.t (.int .i64 0)]) []:=by
 refine ct0 Ag Tryz.func300 Y false Y Y ?_
 repeat'(first|exact prB|refine stC ?_|refine stU (fun h=>?_) fun h=>?_|refine stL ?_ (c:=Afp b hb)|refine Ci Ag Y Y Y Y Y Y (B8 _).symm Y ?_|fail)
 exact Ai Y (A1x _)
def Tp (x:Entry):Entry:=if x.yes=true then⟨x.kind,b0,false,0,x.offset,x.row,x.prod⟩else⟨x.kind,b0,x.yes,x.next,x.offset,x.row,x.prod⟩
theorem A1j {x:Entry} (hk:x.kind=3):(x.b.txn&&(!x.yes||decide (0<=x.next/\x.next<=1048576))&&A9 x.b&&decide (Tp x=E3 x.kind))=B9 x:=by
 unfold B9 DS Gr Tp
 simp only[hk,if_true,if_false,Int.reduceEq]
 generalize A9 x.b=mb
 rcases x with⟨k1,⟨p1,e1,s1,t1,r1⟩,y1,n1,o1,⟨ro1,rp1,rs1,rk1,rv1⟩,⟨pp1,pe1,pn1,ps1⟩⟩
 simp only at hk
 subst hk
 rw[Bool.eq_iff_iff]
 cases y1<;>simp[E3,K8]<;>grind
theorem Ay4 (x:Entry) (hk:x.kind=3) (ha:x.b.recs.length<=1000000) (hp:x.prod.seen.length<=1000000):A17 347 [.agg (Ah (Az x))] [] (.t (.bool (B9 x))) []:=by
 rw[<-A1j hk]
 refine ct0 Ag Tryz.func347 Y false Y Y ?_
 by_cases hy:x.yes=true
 ·have hr:Tp x=⟨x.kind,b0,false,0,x.offset,x.row,x.prod⟩:=by simp[Tp,hy]
  rw[hr]
  repeat'(first|exact prB|refine stC ?_|refine stU (fun h=>?_) fun h=>?_|refine stL ?_ (c:=Fl x.b Aa)|refine stL ?_ (c:=GG _)|refine BG Ag Y Y Y Y (Gk ⟨x.kind,b0,false,0,x.offset,x.row,x.prod⟩ (E3 x.kind) (by first|omega|simp) (by first|omega|simp)) Y Y Y ⟨(by repeat'(first|exact A1x _|exact Ak|exact Ar|exact trivial|refine AA ?_|refine Ap ?_|refine And.intro ?_ ?_)),(by repeat'(first|exact A1x _|exact Ak|exact Ar|exact trivial|refine AA ?_|refine Ap ?_|refine And.intro ?_ ?_)),trivial⟩ ?_|fail)
  all_goals(refine Ai Y (AP ?_);clear hr;(try simp only[Decidable.not_not]at*);simp[*])
 ·have hr:Tp x=⟨x.kind,b0,x.yes,x.next,x.offset,x.row,x.prod⟩:=by simp[Tp,hy]
  rw[hr]
  repeat'(first|exact prB|refine stC ?_|refine stU (fun h=>?_) fun h=>?_|refine stL ?_ (c:=Fl x.b Aa)|refine stL ?_ (c:=GG _)|refine BG Ag Y Y Y Y (Gk ⟨x.kind,b0,x.yes,x.next,x.offset,x.row,x.prod⟩ (E3 x.kind) (by first|omega|simp) (by first|omega|simp)) Y Y Y ⟨(by repeat'(first|exact A1x _|exact Ak|exact Ar|exact trivial|refine AA ?_|refine Ap ?_|refine And.intro ?_ ?_)),(by repeat'(first|exact A1x _|exact Ak|exact Ar|exact trivial|refine AA ?_|refine Ap ?_|refine And.intro ?_ ?_)),trivial⟩ ?_|fail)
  all_goals(refine Ai Y (AP ?_);clear hr;(try simp only[Decidable.not_not]at*);simp[*])
theorem Ay0 (x:Entry) (h0:x.kind≠0) (h1:x.kind≠1) (h2:x.kind≠2) (h3:x.kind≠3) (h4:x.kind≠4) (h5:x.kind≠5) (h6:x.kind≠6):A17 347 [.agg (Ah (Az x))] [] (.t (.bool (B9 x))) []:=by
 refine ct0 Ag Tryz.func347 Y false Y Y ?_
 repeat'(first|exact prB|refine stC ?_|refine stU (fun h=>?_) fun h=>?_|fail)
 all_goals(refine Ai Y (AP ?_);simp[B9, *])
theorem HP (hK:Lv) (x:Entry) (ha:x.b.recs.length<=1000000) (hp:x.prod.seen.length<=1000000):A17 347 [.agg (Ah (Az x))] [] (.t (.bool (B9 x))) []:=by
 by_cases h0:x.kind=0
 ·exact Ay7 hK x h0 ha hp
 by_cases h1:x.kind=1
 ·exact Ay6 hK x h1 ha hp
 by_cases h2:x.kind=2
 ·exact Ay5 hK x h2 ha hp
 by_cases h3:x.kind=3
 ·exact Ay4 x h3 ha hp
 by_cases h4:x.kind=4
 ·exact Ay3 x h4 ha hp
 by_cases h5:x.kind=5
 ·exact Ay2 hK x h5 ha hp
 by_cases h6:x.kind=6
 ·exact Ay1 hK x h6 ha hp
 exact Ay0 x h0 h1 h2 h3 h4 h5 h6
end Go.Proofs.YtmohpcgmdheafaaGreatDoor
