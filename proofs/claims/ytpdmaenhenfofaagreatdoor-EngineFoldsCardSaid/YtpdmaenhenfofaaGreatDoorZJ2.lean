/- Contracts and laws, joined: Rg, Rh, Ri, Rj, Rk, Rl. No condition beside those that each theorem names. -/
import Derived.Test.YtpdmaenhenfofaaGreatDoorZJ1
set_option linter.unusedVariables false
set_option linter.unusedSimpArgs false
namespace Go.Proofs.YtpdmaenhenfofaaGreatDoor
open Go.Am
attribute [local irreducible] Decidable.decide
set_option maxRecDepth 100000
set_option maxHeartbeats 1000000
def Dm (x:Entry):Bool:=decide (x=Fd x)
def B9 (x:Entry):Bool:=Dm x&&
 (if x.kind=0 then A1 x.b
 else if x.kind=1 then decide (1≤x.b.pid∧x.b.pid≤8∧0≤x.b.epoch∧x.b.epoch≤100)
 else if x.kind=2 then decide (0≤x.offset∧x.offset≤1048576)
 else if x.kind=3 then A1 x.b&&x.b.txn&&decide (0≤x.next∧x.next≤1048576)
 else if x.kind=4 then decide (1≤x.b.pid∧x.b.pid≤8∧0≤x.b.epoch∧x.b.epoch≤100)&&decide (0≤x.next∧x.next≤1048576)
 else if x.kind=5 then Io x.row
 else if x.kind=6 then C2 x.prod
 else false)
theorem Gf (x:Entry) (ha:x.b.recs.length≤1000000) (hp:x.prod.seen.length≤1000000):Ct Tryz.prog 63 [.agg (Aj (A4 x))] [] (.t (.bool (B9 x))) []:=by
 refine ct0 Ac Tryz.func63 J false J J ?_
 have hsm:Ct Tryz.prog 115 [.agg (Aj (A4 x)),.agg (Aj (A4 (Fd x)))] [] (.t (.bool (Dm x))) []:=ZA x (Fd x) ha hp
 repeat'(first|refine Ae Ac J J J ?_|refine Ag ?_|refine Ah ?_|refine Ai Ac J J ?_|(refine AZ J J J J J (ht:=fun h=>?_) (hf:=fun h=>?_)<;>try exact prn)|(refine Af J (ht:=fun h=>?_) (hf:=fun h=>?_)<;>try exact prn)|refine Al ?_|refine Ao ?_|refine Ar ?_|refine A9 (id:=1) (m:=3) Ac Y J J J J ?_|refine AA J J J J ?_|refine CY ?_|refine Ak Ac J J J J J J J (Hm _ _ _) J J ?_|refine Ak Ac J J J J J J J (Lv _ _) J J ?_|refine AO J J J J J (Ae6 x) J J ?_|refine Ak Ac J J J J J J J (hsm) J J ?_|refine Ak Ac J J J J J J J (Sr x.b) J J ?_|refine Ak Ac J J J J J J J (Wd x.row) J J ?_|refine Ak Ac J J J J J J J (Rs x.prod) J J ?_)
 all_goals(refine Au J (BJ ?_);unfold B9;clear hsm;(try simp only[Decidable.not_not]at*);simp[*])
def Hi (r:Rec):Bs:=Dd r.key++Dd r.value
def Da (y:Bool):Bs:=[if y then 1 else 0]
def CV (b:Batch):Bs:=B6 b.pid.toNat++B6 b.epoch.toNat++B6 b.seq.toNat++Da b.txn++B6 b.recs.length++b.recs.flatMap Hi
theorem Gs {s:Bs} (h:s.length≤16):(Dd s).length≤22:=by
 have:=Cf (n:=s.length) O
 simp[Dd];omega
theorem Oc: ∀{l:List Rec},l.all G6=true→(l.flatMap Hi).length≤44*l.length
 |[],_=>by simp
 |r::l,h=>by
  simp only[List.all_cons,Bool.and_eq_true]at h
  have ih:=Oc h.2
  have h1:=JE.1 h.1
  have h2:=Gs (s:=r.key) O
  have h3:=Gs (s:=r.value) O
  simp only[List.flatMap_cons,List.length_append,List.length_cons,Hi];omega
theorem Yj {sz:Nat}:Sub (.t (.slice .nil sz [])) (.t (.slice .any 1 (([]:Bs).map Bn))):=A6
end Go.Proofs.YtpdmaenhenfofaaGreatDoor
namespace Go.Proofs.YtpdmaenhenfofaaGreatDoor
open Go.Am
attribute [local irreducible] Decidable.decide
set_option maxRecDepth 100000
set_option maxHeartbeats 1000000
def Lg (s:Seen):Bs:=Cu [s.seq,s.count,s.base+1]
def AH (x:Entry):Bs:=UInt8.ofNat x.kind.toNat::
 (if x.kind=0 then CV x.b
 else if x.kind=1 then Cu [x.b.pid,x.b.epoch]++Da x.yes
 else if x.kind=2 then Cu [x.offset]
 else if x.kind=3 then CV x.b++Da x.yes++(if x.yes then Cu [x.next]else[])
 else if x.kind=4 then Cu [x.b.pid,x.b.epoch]++Cu [x.next]
 else if x.kind=5 then Cu [x.row.pid,x.row.seq]++Dd x.row.key++Dd x.row.value
 else Cu [x.prod.pid,x.prod.epoch,x.prod.next,x.prod.seen.length]++x.prod.seen.flatMap Lg)
theorem I5 {b:Batch} (h:A1 b=true):(CV b).length≤1000:=by
 simp only[A1,Bool.and_eq_true,decide_eq_true_eq]at h
 obtain⟨hbd,hall⟩:=h
 unfold Cm at hbd
 have l1:=Cf (n:=b.pid.toNat) O
 have l2:=Cf (n:=b.epoch.toNat) O
 have l3:=Cf (n:=b.seq.toNat) O
 have l4:=Cf (n:=b.recs.length) O
 have l5:=Oc hall
 unfold CV
 simp only[List.length_append,Da,List.length_cons,List.length_nil];omega
theorem Yn {x:Entry} (h:B9 x=true):x.kind=0∨x.kind=1∨x.kind=2∨x.kind=3∨x.kind=4∨x.kind=5∨x.kind=6:=by
 unfold B9 at h
 simp only[Bool.and_eq_true]at h
 have h:=h.2
 repeat (split at h;·simp[*])
 cases h
theorem FC {x:Entry} (h:B9 x=true):x=Fd x∧(if x.kind=0 then A1 x.b=true
 else if x.kind=1 then(1≤x.b.pid∧x.b.pid≤8∧0≤x.b.epoch∧x.b.epoch≤100)
 else if x.kind=2 then(0≤x.offset∧x.offset≤1048576)
 else if x.kind=3 then A1 x.b=true∧x.b.txn=true∧(0≤x.next∧x.next≤1048576)
 else if x.kind=4 then(1≤x.b.pid∧x.b.pid≤8∧0≤x.b.epoch∧x.b.epoch≤100)∧(0≤x.next∧x.next≤1048576)
 else if x.kind=5 then Io x.row=true
 else x.kind=6∧C2 x.prod=true):=by
 unfold B9 Dm at h
 simp only[Bool.and_eq_true,decide_eq_true_eq]at h
 obtain⟨h1,h⟩:=h
 refine⟨h1,?_⟩
 clear h1
 repeat (split at h;·simp_all)
 cases h
end Go.Proofs.YtpdmaenhenfofaaGreatDoor
namespace Go.Proofs.YtpdmaenhenfofaaGreatDoor
open Go.Am
attribute [local irreducible] Decidable.decide
set_option maxRecDepth 100000
set_option maxHeartbeats 1000000
theorem KE {next:Int} (h0:0≤next) (h1:next≤1048576): ∀{l:List Seen},B5 next l=true→ ∀s∈l,Cp s∧s.seq≤1048576
 |[],_,s,hs=>by simp at hs
 |t::r,h,s,hs=>by
  have hb:=Fb h0 h1 h
  simp only[B5,Bool.and_eq_true,decide_eq_true_eq]at h
  rcases List.mem_cons.1 hs with rfl|hs
  ·exact⟨h.1.1,hb.2⟩
  ·exact KE h0 h1 h.2 s hs
theorem XQ {s:Seen} (h:Cp s) (h1:s.seq≤1048576):(Lg s).length≤18:=by
 unfold Cp at h
 have l1:=Cf (n:=s.seq.toNat) O
 have l2:=Cf (n:=s.count.toNat) O
 have l3:=Cf (n:=(s.base+1).toNat) O
 simp[Lg,Cu];omega
theorem Mq: ∀{l:List Seen},(∀s∈l,Cp s∧s.seq≤1048576)→(l.flatMap Lg).length≤18*l.length
 |[],_=>by simp
 |s::l,h=>by
  have ih:=Mq (l:=l) fun t ht=>h t (List.mem_cons_of_mem _ ht)
  have h1:=h s Z
  have h2:=XQ h1.1 h1.2
  simp only[List.flatMap_cons,List.length_append,List.length_cons];omega
end Go.Proofs.YtpdmaenhenfofaaGreatDoor
namespace Go.Proofs.YtpdmaenhenfofaaGreatDoor
open Go.Am
attribute [local irreducible] Decidable.decide
set_option maxRecDepth 100000
set_option maxHeartbeats 1000000
def BB (s:Bs):Bs:=[UInt8.ofNat (s.length % 256),UInt8.ofNat (s.length/256),0,0]++s
theorem hch {n:Nat} {a b:Int} (h1:T.int .u8 a=T.int .u8 ((UInt8.ofNat (n % 256)).toNat:Int)) (h2:T.int .u8 b=T.int .u8 ((UInt8.ofNat (n/256)).toNat:Int)):AW 1 4 [T.int .u8 a,T.int .u8 b,T.int .u8 0,T.int .u8 0]=Dz [UInt8.ofNat (n % 256),UInt8.ofNat (n/256),0,0]:=by
 rw[h1,h2];rfl
end Go.Proofs.YtpdmaenhenfofaaGreatDoor
namespace Go.Proofs.YtpdmaenhenfofaaGreatDoor
open Go.Am
attribute [local irreducible] Decidable.decide
set_option maxRecDepth 100000
set_option maxHeartbeats 1000000
theorem Fr {x:Entry} (hm:B9 x=true):(AH x).length≤1024:=by
 have hma:=(FC hm).2
 have v1: ∀n:Int,0≤n→n≤1099511627776→(B6 n.toNat).length≤6:=fun n h0 h1=>Cf O
 unfold AH
 rw[List.length_cons]
 split at hma
 ·rename_i hk;rw[if_pos hk];have:=I5 hma;omega
 rename_i hk0;rw[if_neg hk0]
 split at hma
 ·rename_i hk;rw[if_pos hk]
  have a1:=v1 x.b.pid O O
  have a2:=v1 x.b.epoch O O
  simp[Cu,Da];omega
 rename_i hk1;rw[if_neg hk1]
 split at hma
 ·rename_i hk;rw[if_pos hk]
  have a1:=v1 x.offset O O
  simp[Cu];omega
 rename_i hk2;rw[if_neg hk2]
 split at hma
 ·rename_i hk;rw[if_pos hk]
  have:=I5 hma.1
  have a1:=v1 x.next O O
  split<;>simp[Cu,Da]<;>omega
 rename_i hk3;rw[if_neg hk3]
 split at hma
 ·rename_i hk;rw[if_pos hk]
  have a1:=v1 x.b.pid O O
  have a2:=v1 x.b.epoch O O
  have a3:=v1 x.next O O
  simp[Cu];omega
 rename_i hk4;rw[if_neg hk4]
 split at hma
 ·rename_i hk;rw[if_pos hk]
  simp only[Io,decide_eq_true_eq]at hma
  have a1:=v1 x.row.pid O O
  have a2:=v1 x.row.seq O O
  have a3:=Gs (s:=x.row.key) O
  have a4:=Gs (s:=x.row.value) O
  simp[Cu];omega
 rename_i hk5;rw[if_neg hk5]
 obtain⟨_,hma⟩:=hma
 simp only[C2,Bool.and_eq_true,decide_eq_true_eq]at hma
 obtain⟨hbd,hch⟩:=hma
 unfold BU at hbd
 have hs:=Mq (KE O O hch)
 have a1:=v1 x.prod.pid O O
 have a2:=v1 x.prod.epoch O O
 have a3:=v1 x.prod.next O O
 have a4:=v1 x.prod.seen.length O O
 rw[List.length_append]
 have:(Cu [x.prod.pid,x.prod.epoch,x.prod.next,(x.prod.seen.length:Int)]).length≤24:=by simp[Cu]at*;omega
 omega
def KJ (name:Bs) (x:Entry):Wr:=⟨0,name,BB (AH x),0⟩
def CX (name:Bs) (l:List Entry):List Wr:=l.map (KJ name)++[⟨1,name,[],0⟩]
def Of (name:Bs) (l:List Entry):List Wr:=if l≠[]∧l.all B9=true then CX name l else[]
def PJ (l:List Entry):Int:=if l≠[]∧l.all B9=true then 0 else 2
def DV (x:Entry):Prop:=x.b.recs.length≤1000000∧x.prod.seen.length≤1000000
end Go.Proofs.YtpdmaenhenfofaaGreatDoor
