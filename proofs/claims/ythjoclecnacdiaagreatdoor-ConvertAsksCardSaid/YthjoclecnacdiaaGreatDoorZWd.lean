/- Contracts of the program: all fields of a request are read. -/
import Derived.Test.YthjoclecnacdiaaGreatDoorZM9
import Derived.Test.YthjoclecnacdiaaGreatDoorZM10
import Derived.Test.YthjoclecnacdiaaGreatDoorZM11
import Derived.Test.YthjoclecnacdiaaGreatDoorZWc
import Derived.Test.YthjoclecnacdiaaGreatDoorZW2
import Derived.Test.YthjoclecnacdiaaGreatDoorZW1
set_option linter.unusedVariables false
set_option linter.unusedSimpArgs false
namespace Go.Proofs.YthjoclecnacdiaaGreatDoor
open Go.Am
attribute [local irreducible] Decidable.decide
set_option maxRecDepth 100000
set_option maxHeartbeats 1000000
def Co (q:Req):Req:=
 if q.kind=1 then{q with tid:=0,timeout:=0}
 else if q.kind=2 then{q with part:=0,b:=EB}
 else if q.kind=3 then{q with pid:=0,epoch:=0,group:=0,part:=0,offset:=0}
 else if q.kind=4 then{q with pid:=0,epoch:=0,yes:=false}
 else if q.kind=5 then{q with part:=0,offset:=0,most:=0,yes:=false}
 else if q.kind=6 then{q with group:=0,part:=0,offset:=0}
 else if q.kind=7 then{q with group:=0,part:=0}
 else if q.kind=8 then{q with part:=0,offset:=0}
 else q
def VR (q:Req) (s:RS):Prop:=(s.err=none↔Bi q=true)∧(s.err=none→s.q=Co q∧s.b.length≤10000)
theorem DO {ι:Type} {te:TE} {rs:List ResultVar} {V:ι→Prop} {r:ι→AV} {s:ι→St} {e:Env} {st s1:St} {r0 r1:AV} (i:ι) (hV:V i) (D:List Nat) (h:Is te true rs e st=some (r0,s1)) (h1:Hm D [(0,r0)]=[(0,r1)]) (h2:Go.Am.GE D s1=s i) (hs:Sub r1 (r i)):Y4 te rs V r s .normal e st:=
 ⟨.inl J,i,hV,r0,s1,D,r1,h,h1,h2,hs⟩
theorem CtF.imp {P:Program} {f:Nat} {xs:List AV} {σ:St} {ι:Type} {V V':ι→Prop} {r:ι→AV} {s:ι→St} (h:CtF P f xs σ V r s) (hv: ∀i,V i→V' i):CtF P f xs σ V' r s:=
 ⟨h.1,fun vs w g hr hi=>(h.2 vs w g hr hi).mono fun e w' ⟨v,g',i,he,hV,hrest⟩=>⟨v,g',i,he,hv i hV,hrest⟩⟩
def DQ (s:RS):RS:=if 0≤s.q.tid∧s.q.tid≤2 then⟨{s.q with tid:=0},s.b++BR s.q.tid.toNat,none⟩else⟨s.q,s.b,some ([84,105,100],2)⟩
theorem Sq (s:RS) (he:s.err=none) (hb:s.b.length≤1000000):Ct Tryz.prog 103 [.ref 1 0] (wS s) (.tuple []) (wS (DQ s)):=by
 obtain⟨q,b,e⟩:=s
 dsimp only at he hb
 subst he
 by_cases h:0≤q.tid∧q.tid≤2
 ·rw[show DQ ⟨q,b,none⟩=⟨{q with tid:=0},b++BR q.tid.toNat,none⟩from if_pos h];exact Vn q b hb h
 ·rw[show DQ ⟨q,b,none⟩=⟨q,b,some ([84,105,100],2)⟩from if_neg h];exact Vo q b h
theorem Ld (s:RS) (n:Nat) (h:(DQ s).err=none) (hb:s.b.length≤n):(DQ s).b.length≤n+6:=by
 unfold DQ at h⊢
 split
 ·rename_i hc
  have:=BA (n:=(s.q.tid.toNat)) O
  simp only[List.length_append];omega
 ·dsimp only;omega
def Cj (s:RS):RS:=if 1≤s.q.timeout∧s.q.timeout≤20 then⟨{s.q with timeout:=0},s.b++BR s.q.timeout.toNat,none⟩else⟨s.q,s.b,some ([84,105,109,101,111,117,116],2)⟩
theorem Mo (s:RS) (he:s.err=none) (hb:s.b.length≤1000000):Ct Tryz.prog 104 [.ref 1 0] (wS s) (.tuple []) (wS (Cj s)):=by
 obtain⟨q,b,e⟩:=s
 dsimp only at he hb
 subst he
 by_cases h:1≤q.timeout∧q.timeout≤20
 ·rw[show Cj ⟨q,b,none⟩=⟨{q with timeout:=0},b++BR q.timeout.toNat,none⟩from if_pos h];exact O8 q b hb h
 ·rw[show Cj ⟨q,b,none⟩=⟨q,b,some ([84,105,109,101,111,117,116],2)⟩from if_neg h];exact O9 q b h
theorem Lc (s:RS) (n:Nat) (h:(Cj s).err=none) (hb:s.b.length≤n):(Cj s).b.length≤n+6:=by
 unfold Cj at h⊢
 split
 ·rename_i hc
  have:=BA (n:=(s.q.timeout.toNat)) O
  simp only[List.length_append];omega
 ·dsimp only;omega
def BQ (s:RS):RS:=if 1≤s.q.pid∧s.q.pid≤8 then⟨{s.q with pid:=0},s.b++BR s.q.pid.toNat,none⟩else⟨s.q,s.b,some ([80,105,100],2)⟩
theorem MJ (s:RS) (he:s.err=none) (hb:s.b.length≤1000000):Ct Tryz.prog 107 [.ref 1 0] (wS s) (.tuple []) (wS (BQ s)):=by
 obtain⟨q,b,e⟩:=s
 dsimp only at he hb
 subst he
 by_cases h:1≤q.pid∧q.pid≤8
 ·rw[show BQ ⟨q,b,none⟩=⟨{q with pid:=0},b++BR q.pid.toNat,none⟩from if_pos h];exact Vp q b hb h
 ·rw[show BQ ⟨q,b,none⟩=⟨q,b,some ([80,105,100],2)⟩from if_neg h];exact Vq q b h
theorem Dh (s:RS) (n:Nat) (h:(BQ s).err=none) (hb:s.b.length≤n):(BQ s).b.length≤n+6:=by
 unfold BQ at h⊢
 split
 ·rename_i hc
  have:=BA (n:=(s.q.pid.toNat)) O
  simp only[List.length_append];omega
 ·dsimp only;omega
def Bz (s:RS):RS:=if 0≤s.q.epoch∧s.q.epoch≤100 then⟨{s.q with epoch:=0},s.b++BR s.q.epoch.toNat,none⟩else⟨s.q,s.b,some ([69,112,111,99,104],2)⟩
theorem Kn (s:RS) (he:s.err=none) (hb:s.b.length≤1000000):Ct Tryz.prog 108 [.ref 1 0] (wS s) (.tuple []) (wS (Bz s)):=by
 obtain⟨q,b,e⟩:=s
 dsimp only at he hb
 subst he
 by_cases h:0≤q.epoch∧q.epoch≤100
 ·rw[show Bz ⟨q,b,none⟩=⟨{q with epoch:=0},b++BR q.epoch.toNat,none⟩from if_pos h];exact S8 q b hb h
 ·rw[show Bz ⟨q,b,none⟩=⟨q,b,some ([69,112,111,99,104],2)⟩from if_neg h];exact S9 q b h
theorem Do (s:RS) (n:Nat) (h:(Bz s).err=none) (hb:s.b.length≤n):(Bz s).b.length≤n+6:=by
 unfold Bz at h⊢
 split
 ·rename_i hc
  have:=BA (n:=(s.q.epoch.toNat)) O
  simp only[List.length_append];omega
 ·dsimp only;omega
def AL (s:RS):RS:=if 0≤s.q.part∧s.q.part≤2 then⟨{s.q with part:=0},s.b++BR s.q.part.toNat,none⟩else⟨s.q,s.b,some ([80,97,114,116],2)⟩
theorem DZ (s:RS) (he:s.err=none) (hb:s.b.length≤1000000):Ct Tryz.prog 105 [.ref 1 0] (wS s) (.tuple []) (wS (AL s)):=by
 obtain⟨q,b,e⟩:=s
 dsimp only at he hb
 subst he
 by_cases h:0≤q.part∧q.part≤2
 ·rw[show AL ⟨q,b,none⟩=⟨{q with part:=0},b++BR q.part.toNat,none⟩from if_pos h];exact TD q b hb h
 ·rw[show AL ⟨q,b,none⟩=⟨q,b,some ([80,97,114,116],2)⟩from if_neg h];exact TF q b h
theorem BV (s:RS) (n:Nat) (h:(AL s).err=none) (hb:s.b.length≤n):(AL s).b.length≤n+6:=by
 unfold AL at h⊢
 split
 ·rename_i hc
  have:=BA (n:=(s.q.part.toNat)) O
  simp only[List.length_append];omega
 ·dsimp only;omega
def AX (s:RS):RS:=if 0≤s.q.group∧s.q.group≤1 then⟨{s.q with group:=0},s.b++BR s.q.group.toNat,none⟩else⟨s.q,s.b,some ([71,114,111,117,112],2)⟩
theorem GK (s:RS) (he:s.err=none) (hb:s.b.length≤1000000):Ct Tryz.prog 112 [.ref 1 0] (wS s) (.tuple []) (wS (AX s)):=by
 obtain⟨q,b,e⟩:=s
 dsimp only at he hb
 subst he
 by_cases h:0≤q.group∧q.group≤1
 ·rw[show AX ⟨q,b,none⟩=⟨{q with group:=0},b++BR q.group.toNat,none⟩from if_pos h];exact S5 q b hb h
 ·rw[show AX ⟨q,b,none⟩=⟨q,b,some ([71,114,111,117,112],2)⟩from if_neg h];exact S6 q b h
theorem C9 (s:RS) (n:Nat) (h:(AX s).err=none) (hb:s.b.length≤n):(AX s).b.length≤n+6:=by
 unfold AX at h⊢
 split
 ·rename_i hc
  have:=BA (n:=(s.q.group.toNat)) O
  simp only[List.length_append];omega
 ·dsimp only;omega
def AM (s:RS):RS:=if 0≤s.q.offset∧s.q.offset≤1048576 then⟨{s.q with offset:=0},s.b++BR s.q.offset.toNat,none⟩else⟨s.q,s.b,some ([79,102,102,115,101,116],2)⟩
theorem EH (s:RS) (he:s.err=none) (hb:s.b.length≤1000000):Ct Tryz.prog 110 [.ref 1 0] (wS s) (.tuple []) (wS (AM s)):=by
 obtain⟨q,b,e⟩:=s
 dsimp only at he hb
 subst he
 by_cases h:0≤q.offset∧q.offset≤1048576
 ·rw[show AM ⟨q,b,none⟩=⟨{q with offset:=0},b++BR q.offset.toNat,none⟩from if_pos h];exact Qv q b hb h
 ·rw[show AM ⟨q,b,none⟩=⟨q,b,some ([79,102,102,115,101,116],2)⟩from if_neg h];exact Qw q b h
theorem CZ (s:RS) (n:Nat) (h:(AM s).err=none) (hb:s.b.length≤n):(AM s).b.length≤n+6:=by
 unfold AM at h⊢
 split
 ·rename_i hc
  have:=BA (n:=(s.q.offset.toNat)) O
  simp only[List.length_append];omega
 ·dsimp only;omega
def C8 (s:RS):RS:=if 1≤s.q.most∧s.q.most≤64 then⟨{s.q with most:=0},s.b++BR s.q.most.toNat,none⟩else⟨s.q,s.b,some ([77,111,115,116],2)⟩
theorem Qq (s:RS) (he:s.err=none) (hb:s.b.length≤1000000):Ct Tryz.prog 111 [.ref 1 0] (wS s) (.tuple []) (wS (C8 s)):=by
 obtain⟨q,b,e⟩:=s
 dsimp only at he hb
 subst he
 by_cases h:1≤q.most∧q.most≤64
 ·rw[show C8 ⟨q,b,none⟩=⟨{q with most:=0},b++BR q.most.toNat,none⟩from if_pos h];exact TJ q b hb h
 ·rw[show C8 ⟨q,b,none⟩=⟨q,b,some ([77,111,115,116],2)⟩from if_neg h];exact TL q b h
theorem Km (s:RS) (n:Nat) (h:(C8 s).err=none) (hb:s.b.length≤n):(C8 s).b.length≤n+6:=by
 unfold C8 at h⊢
 split
 ·rename_i hc
  have:=BA (n:=(s.q.most.toNat)) O
  simp only[List.length_append];omega
 ·dsimp only;omega
def C7 (s:RS):RS:=⟨{s.q with yes:=false},s.b++GD s.q.yes,none⟩
theorem MI (s:RS) (he:s.err=none) (hb:s.b.length≤1000000):Ct Tryz.prog 109 [.ref 1 0] (wS s) (.tuple []) (wS (C7 s)):=by
 obtain⟨q,b,e⟩:=s
 dsimp only at he hb
 subst he
 exact Ve q b hb
def CJ (s:RS):RS:=if B3 s.q.b=true then⟨{s.q with b:=EB},s.b++G6 (FG s.q.b),none⟩else⟨s.q,s.b,some ([66],2)⟩
theorem Ox (s:RS) (he:s.err=none) (hb:s.b.length≤1000000) (hl:s.q.b.recs.length≤1000000):Ct Tryz.prog 106 [.ref 1 0] (wS s) (.tuple []) (wS (CJ s)):=by
 obtain⟨q,b,e⟩:=s
 dsimp only at he hb hl
 subst he
 cases h:B3 q.b with
 |true=>rw[show CJ ⟨q,b,none⟩=⟨{q with b:=EB},b++G6 (FG q.b),none⟩from if_pos h];exact SC q b hb h
 |false=>rw[show CJ ⟨q,b,none⟩=⟨q,b,some ([66],2)⟩from if_neg (by rw[h];decide)];exact SD q b h hl
theorem Lb (s:RS) (n:Nat) (h:(C7 s).err=none) (hb:s.b.length≤n):(C7 s).b.length≤n+6:=by
 unfold C7 GD
 simp only[List.length_append,List.length_cons,List.length_nil];omega
theorem NC (s:RS) (n:Nat) (h:(CJ s).err=none) (hb:s.b.length≤n):(CJ s).b.length≤n+2000:=by
 unfold CJ at h⊢
 split
 ·rename_i hc
  have h1:=Mi hc
  have h2:=BA (n:=(FG s.q.b).length) O
  simp only[List.length_append,G6];omega
 ·dsimp only;omega
theorem Sr (s:RS):(AL s).q.b=s.q.b:=by unfold AL;split<;>rfl
def VS (n:Nat) (s:Nat→RS) (x:RS):Prop:= ∃i,i≤n∧x=s i∧(i=n∨(s i).err≠none)∧ ∀j,j<i→(s j).err=none
theorem Tr.perm {P:Program} {n:Nat} {env:Env} {σ σ':St} {code:Code} {K:Exit→Env→St→Prop} (hs: ∀b,Am.look σ' b=Am.look σ b) (h:Tr P n code env σ' K):Tr P n code env σ K:=
 fun F hF hrf w g a hg=>h F hF hrf w g a (hg.eqv (fun _=>rfl) hs)
theorem DJ {A B:Blk} (b:Nat):Am.look [(1,A),(16,B)] b=Am.look [(16,B),(1,A)] b:=by
 simp only[AB]
 by_cases h1:1=b
 ·subst h1;simp
 ·by_cases h2:16=b
  ·subst h2;simp
  ·simp[h1,h2]
theorem Fd (f:Nat→Option Nat) (j:Nat): ∀X:List AV,DN f (X++List.replicate j .top)=DN f X++List.replicate j .top
 |[]=>by
  show DN f (List.replicate j .top)=List.replicate j .top
  induction j with
  |zero=>rfl
  |succ j ih=>rw[List.replicate_succ];simp only[DN,ih];rfl
 |x::X=>by
  show Cw f x::DN f (X++List.replicate j .top)=Cw f x::(DN f X++List.replicate j .top)
  rw[Fd f j X]
theorem HE {α:Type} {l:List α} {i:Nat} {x:α} (h:l[i]?=some x) (r:List α):(l++r)[i]?=some x:=by
 obtain⟨hlt,he⟩:=List.getElem?_eq_some_iff.1 h
 rw[List.getElem?_append_left hlt];exact h
theorem Vm (s:Nat→RS) (hs: ∀i,i<2→(∀j,j≤i→(s j).err=none)→ ∃f,([103,104]:List Nat)[i]?=some f∧Ct Tryz.prog f [.ref 1 0] (wS (s i)) (.tuple []) (wS (s (i+1)))):CtF Tryz.prog 55 [.ref 1 0,.t (.int .i8 1)] (wS (s 0)) (VS 2 s) (fun _=>.tuple []) wS:=by
 refine ctF Ab Tryz.func55 J J ?_
 repeat'(first|refine Ak Ab J J J J J ?_|refine Ap Ab J J J ?_|refine A0 ?_|refine AP (fun _ _ _ _=>?_)|refine Aw Ab J J ?_|(refine A1 J J J J J (ht:=fun h=>?_) (hf:=fun h=>?_)<;>try exact prn)|(refine A2 J J J J J (ht:=fun h=>?_) (hf:=fun h=>?_)<;>try exact prn)|refine Ag J J J J J ?_|(refine Al J (ht:=fun h=>?_) (hf:=fun h=>?_)<;>try exact prn)|refine AG (fun _ _ _ _ _=>?_)|refine Aq ?_|refine Ar ?_|refine A3 ?_|refine Aj Ab J J J J J J J (Ac Z) J ?_|refine Ae Ab J J J J J J J Z (Ac Z) J ?_|refine Ah Ab J J J J J J J J J J J J J (by simp[Ad];omega) ?_|refine Af Ab J J J J J J J J J J J J J J (by simp[Ad];omega) ?_|refine BH Z ?_|refine BF Z ?_|refine BG Z J ?_|refine A8 Ab J J J J J (fun _=>rfl) (fun b hb=>?_)|refine As J J J J ?_|refine A4 ?_|(refine A5 J J J J J (ht:=fun h=>?_) (hf:=fun h=>?_)<;>try exact prn)|(refine A6 J J J J J (ht:=fun h=>?_) (hf:=fun h=>?_)<;>try exact prn)|refine Ai J J J J J ?_|refine An J J J J J J J (Ac Z) J ?_|refine Ao J J J J J J J Z (Ac Z) J ?_|refine AR Ab [(1,1)] [(1,1),(60,16)] J J J J J (Vz (s 0)) J J J J J ?_)
 refine Tr.perm (σ':=[(1,.cells (Ci (s 0))),(16,.cells [clR 103,clR 104])]) DJ ?_
 refine BC (ι:=Nat) (fun i=>i≤2∧ ∀j,j<i→(s j).err=none) (fun i=>[(0,.ref 1 0),(8,.row 16 1 0 2),(9,.t (.int .i64 2)),(10,.t (.int .i64 i))]) (fun i=>[(1,.cells (Ci (s i))),(16,.cells [clR 103,clR 104])]) (fun i=>2-i) 0 ⟨by omega,fun j hj=>by omega⟩ ?_ ?_
 ·exact Ce [] (Av J J (Av J J (Av J J (Av J J AJ)))) J
 rintro i ⟨hi,hpre⟩
 by_cases hlt:i<2
 ·cases he:(s i).err with
  |none=>
   have hj: ∀j,j<i+1→(s j).err=none:=fun j hj=>by
    by_cases e:j=i
    ·subst e;exact he
    ·exact hpre j O
   obtain⟨f,hf,hc⟩:=hs i hlt (fun j hjl=>hj j O)
   have hg:[clR 103,clR 104][0+i]?=some (clR f):=by
    rw[Nat.zero_add]
    show(List.map clR [103,104])[i]?=_
    rw[List.getElem?_map,hf];rfl
   generalize hx:s i=x at hc he
   obtain⟨xq,xb,xe⟩:=x
   dsimp only at he
   subst he
   repeat'(first|refine Ak Ab J J J J J ?_|refine Ap Ab J J J ?_|refine A0 ?_|refine AP (fun _ _ _ _=>?_)|refine Aw Ab J J ?_|(refine A1 J J J J J (ht:=fun h=>?_) (hf:=fun h=>?_)<;>try exact prn)|(refine A2 J J J J J (ht:=fun h=>?_) (hf:=fun h=>?_)<;>try exact prn)|refine Ag J J J J J ?_|(refine Al J (ht:=fun h=>?_) (hf:=fun h=>?_)<;>try exact prn)|refine AG (fun _ _ _ _ _=>?_)|refine Aq ?_|refine Ar ?_|refine A3 ?_|refine Aj Ab J J J J J J J (Ac Z) J ?_|refine Ae Ab J J J J J J J Z (Ac Z) J ?_|refine Ah Ab J J J J J J J J J J J J J (by simp[Ad];omega) ?_|refine Af Ab J J J J J J J J J J J J J J (by simp[Ad];omega) ?_|refine BH Z ?_|refine BF Z ?_|refine BG Z J ?_|refine A8 Ab J J J J J (fun _=>rfl) (fun b hb=>?_)|refine As J J J J ?_|refine A4 ?_|(refine A5 J J J J J (ht:=fun h=>?_) (hf:=fun h=>?_)<;>try exact prn)|(refine A6 J J J J J (ht:=fun h=>?_) (hf:=fun h=>?_)<;>try exact prn)|refine Ai J J J J J ?_|refine An J J J J J J J (Ac Z) J ?_|refine Ao J J J J J J J Z (Ac Z) J ?_|refine Ca Ab J J J J J J J J hlt J ?_|refine Cr Ab J J J J J hg J J ?_|refine AR Ab [(1,1)] [(1,1)] J J J J J hc J J J J J ?_)
   refine BB (i+1) ⟨by omega,hj⟩ O [] (Av J J (Av J J (Av J J (Av J ?_ AJ)))) J
   rw[AW O O];rfl
  |some p=>
   have hV:VS 2 s (s i):=⟨i,hi,J,.inr (by rw[he];simp),hpre⟩
   obtain⟨f,hf⟩: ∃f,([103,104]:List Nat)[i]?=some f:=⟨_,List.getElem?_eq_getElem hlt⟩
   have hg:[clR 103,clR 104][0+i]?=some (clR f):=by
    rw[Nat.zero_add]
    show(List.map clR [103,104])[i]?=_
    rw[List.getElem?_map,hf];rfl
   generalize hx:s i=x at hV he
   obtain⟨xq,xb,xe⟩:=x
   dsimp only at he
   subst he
   repeat'(first|refine Ak Ab J J J J J ?_|refine Ap Ab J J J ?_|refine A0 ?_|refine AP (fun _ _ _ _=>?_)|refine Aw Ab J J ?_|(refine A1 J J J J J (ht:=fun h=>?_) (hf:=fun h=>?_)<;>try exact prn)|(refine A2 J J J J J (ht:=fun h=>?_) (hf:=fun h=>?_)<;>try exact prn)|refine Ag J J J J J ?_|(refine Al J (ht:=fun h=>?_) (hf:=fun h=>?_)<;>try exact prn)|refine AG (fun _ _ _ _ _=>?_)|refine Aq ?_|refine Ar ?_|refine A3 ?_|refine Aj Ab J J J J J J J (Ac Z) J ?_|refine Ae Ab J J J J J J J Z (Ac Z) J ?_|refine Ah Ab J J J J J J J J J J J J J (by simp[Ad];omega) ?_|refine Af Ab J J J J J J J J J J J J J J (by simp[Ad];omega) ?_|refine BH Z ?_|refine BF Z ?_|refine BG Z J ?_|refine A8 Ab J J J J J (fun _=>rfl) (fun b hb=>?_)|refine As J J J J ?_|refine A4 ?_|(refine A5 J J J J J (ht:=fun h=>?_) (hf:=fun h=>?_)<;>try exact prn)|(refine A6 J J J J J (ht:=fun h=>?_) (hf:=fun h=>?_)<;>try exact prn)|refine Ai J J J J J ?_|refine An J J J J J J J (Ac Z) J ?_|refine Ao J J J J J J J Z (Ac Z) J ?_|refine Ca Ab J J J J J J J J hlt J ?_|refine Cr Ab J J J J J hg J J ?_)
   exact Cq _ hV [8] J J J (Sub.refl _)
 ·have e:i=2:=by omega
  subst e
  have hV:VS 2 s (s 2):=⟨2,hi,J,.inl J,hpre⟩
  repeat'(first|refine Ak Ab J J J J J ?_|refine Ap Ab J J J ?_|refine A0 ?_|refine AP (fun _ _ _ _=>?_)|refine Aw Ab J J ?_|(refine A1 J J J J J (ht:=fun h=>?_) (hf:=fun h=>?_)<;>try exact prn)|(refine A2 J J J J J (ht:=fun h=>?_) (hf:=fun h=>?_)<;>try exact prn)|refine Ag J J J J J ?_|(refine Al J (ht:=fun h=>?_) (hf:=fun h=>?_)<;>try exact prn)|refine AG (fun _ _ _ _ _=>?_)|refine Aq ?_|refine Ar ?_|refine A3 ?_|refine Aj Ab J J J J J J J (Ac Z) J ?_|refine Ae Ab J J J J J J J Z (Ac Z) J ?_|refine Ah Ab J J J J J J J J J J J J J (by simp[Ad];omega) ?_|refine Af Ab J J J J J J J J J J J J J J (by simp[Ad];omega) ?_|refine BH Z ?_|refine BF Z ?_|refine BG Z J ?_|refine A8 Ab J J J J J (fun _=>rfl) (fun b hb=>?_)|refine As J J J J ?_|refine A4 ?_|(refine A5 J J J J J (ht:=fun h=>?_) (hf:=fun h=>?_)<;>try exact prn)|(refine A6 J J J J J (ht:=fun h=>?_) (hf:=fun h=>?_)<;>try exact prn)|refine Ai J J J J J ?_|refine An J J J J J J J (Ac Z) J ?_|refine Ao J J J J J J J Z (Ac Z) J ?_)
  exact DO _ hV [8] J J J (Sub.refl _)
def GN (q:Req):Nat→RS:=fun i=>match i with
  |0=>⟨q,[],none⟩
  |1=>DQ ⟨q,[],none⟩
  |_=>Cj (DQ ⟨q,[],none⟩)
theorem XZ (q:Req) (hk:q.kind=1) (hq:q.b.recs.length≤1000000):CtF Tryz.prog 55 [.ref 1 0,.t (.int .i8 1)] (wS ⟨q,[],none⟩) (VR q) (fun _=>.tuple []) wS:=by
 have hw:=Vm (GN q) (fun i hi h=>by
  match i,hi,h with
  |0,_,h=>exact⟨_,J,Sq (GN q 0) (h 0 O) (Nat.le_trans (Nat.le_refl 0) O)⟩
  |1,_,h=>exact⟨_,J,Mo (GN q 1) (h 1 O) (Nat.le_trans (Ld (GN q 0) 0 (h 1 O) (Nat.le_refl 0)) O)⟩
  |_+2,hi,_=>exact absurd hi O)
 refine CtF.imp hw fun x hx=>?_
 obtain⟨i,hi,rfl,hend,hpre⟩:=hx
 by_cases h0:0≤q.tid∧q.tid≤2
 ·skip
  by_cases h1:1≤q.timeout∧q.timeout≤20
  ·have hn: ∀j,j≤2→(GN q j).err=none:=fun j hj=>by
    match j,hj with
    |0,_=>simp[GN,DQ,Cj,h0,h1]
    |1,_=>simp[GN,DQ,Cj,h0,h1]
    |2,_=>simp[GN,DQ,Cj,h0,h1]
    |_+3,hj=>exact absurd hj O
   have e:i=2:=hend.elim id (fun h=>absurd (hn i hi) h)
   subst e
   exact⟨⟨fun _=>by simp[Bi,hk,h0,h1],fun _=>hn 2 (Nat.le_refl _)⟩,fun _=>⟨by simp[GN,Co,hk,DQ,Cj,h0,h1],Nat.le_trans (Lc (GN q 1) 6 (hn 2 O) (Ld (GN q 0) 0 (hn 1 O) (Nat.le_refl 0))) O⟩⟩
  ·have hbad:(GN q 2).err≠none:=by simp[GN,DQ,Cj,h0,h1]
   have hne:(GN q i).err≠none:=fun e=>by
    rcases hend with rfl|h
    ·exact hbad e
    ·exact h e
   have hr:Bi q=false:=by simp only[Bi,hk];simp;grind
   exact⟨⟨fun e=>absurd e hne,fun e=>by rw[hr]at e;cases e⟩,fun e=>absurd e hne⟩
 ·have hbad:(GN q 1).err≠none:=by simp[GN,DQ,Cj,h0]
  have hne:(GN q i).err≠none:=fun e=>by
   rcases hend with rfl|h
   ·exact hbad (hpre 1 O)
   ·exact h e
  have hr:Bi q=false:=by simp only[Bi,hk];simp;grind
  exact⟨⟨fun e=>absurd e hne,fun e=>by rw[hr]at e;cases e⟩,fun e=>absurd e hne⟩
theorem Vl (s:Nat→RS) (hs: ∀i,i<2→(∀j,j≤i→(s j).err=none)→ ∃f,([105,106]:List Nat)[i]?=some f∧Ct Tryz.prog f [.ref 1 0] (wS (s i)) (.tuple []) (wS (s (i+1)))):CtF Tryz.prog 55 [.ref 1 0,.t (.int .i8 2)] (wS (s 0)) (VS 2 s) (fun _=>.tuple []) wS:=by
 refine ctF Ab Tryz.func55 J J ?_
 repeat'(first|refine Ak Ab J J J J J ?_|refine Ap Ab J J J ?_|refine A0 ?_|refine AP (fun _ _ _ _=>?_)|refine Aw Ab J J ?_|(refine A1 J J J J J (ht:=fun h=>?_) (hf:=fun h=>?_)<;>try exact prn)|(refine A2 J J J J J (ht:=fun h=>?_) (hf:=fun h=>?_)<;>try exact prn)|refine Ag J J J J J ?_|(refine Al J (ht:=fun h=>?_) (hf:=fun h=>?_)<;>try exact prn)|refine AG (fun _ _ _ _ _=>?_)|refine Aq ?_|refine Ar ?_|refine A3 ?_|refine Aj Ab J J J J J J J (Ac Z) J ?_|refine Ae Ab J J J J J J J Z (Ac Z) J ?_|refine Ah Ab J J J J J J J J J J J J J (by simp[Ad];omega) ?_|refine Af Ab J J J J J J J J J J J J J J (by simp[Ad];omega) ?_|refine BH Z ?_|refine BF Z ?_|refine BG Z J ?_|refine A8 Ab J J J J J (fun _=>rfl) (fun b hb=>?_)|refine As J J J J ?_|refine A4 ?_|(refine A5 J J J J J (ht:=fun h=>?_) (hf:=fun h=>?_)<;>try exact prn)|(refine A6 J J J J J (ht:=fun h=>?_) (hf:=fun h=>?_)<;>try exact prn)|refine Ai J J J J J ?_|refine An J J J J J J J (Ac Z) J ?_|refine Ao J J J J J J J Z (Ac Z) J ?_|refine AR Ab [(1,1)] [(1,1),(70,16)] J J J J J (Vy (s 0)) J J J J J ?_)
 refine Tr.perm (σ':=[(1,.cells (Ci (s 0))),(16,.cells [clR 105,clR 106])]) DJ ?_
 refine BC (ι:=Nat) (fun i=>i≤2∧ ∀j,j<i→(s j).err=none) (fun i=>[(0,.ref 1 0),(8,.row 16 1 0 2),(9,.t (.int .i64 2)),(10,.t (.int .i64 i))]) (fun i=>[(1,.cells (Ci (s i))),(16,.cells [clR 105,clR 106])]) (fun i=>2-i) 0 ⟨by omega,fun j hj=>by omega⟩ ?_ ?_
 ·exact Ce [] (Av J J (Av J J (Av J J (Av J J AJ)))) J
 rintro i ⟨hi,hpre⟩
 by_cases hlt:i<2
 ·cases he:(s i).err with
  |none=>
   have hj: ∀j,j<i+1→(s j).err=none:=fun j hj=>by
    by_cases e:j=i
    ·subst e;exact he
    ·exact hpre j O
   obtain⟨f,hf,hc⟩:=hs i hlt (fun j hjl=>hj j O)
   have hg:[clR 105,clR 106][0+i]?=some (clR f):=by
    rw[Nat.zero_add]
    show(List.map clR [105,106])[i]?=_
    rw[List.getElem?_map,hf];rfl
   generalize hx:s i=x at hc he
   obtain⟨xq,xb,xe⟩:=x
   dsimp only at he
   subst he
   repeat'(first|refine Ak Ab J J J J J ?_|refine Ap Ab J J J ?_|refine A0 ?_|refine AP (fun _ _ _ _=>?_)|refine Aw Ab J J ?_|(refine A1 J J J J J (ht:=fun h=>?_) (hf:=fun h=>?_)<;>try exact prn)|(refine A2 J J J J J (ht:=fun h=>?_) (hf:=fun h=>?_)<;>try exact prn)|refine Ag J J J J J ?_|(refine Al J (ht:=fun h=>?_) (hf:=fun h=>?_)<;>try exact prn)|refine AG (fun _ _ _ _ _=>?_)|refine Aq ?_|refine Ar ?_|refine A3 ?_|refine Aj Ab J J J J J J J (Ac Z) J ?_|refine Ae Ab J J J J J J J Z (Ac Z) J ?_|refine Ah Ab J J J J J J J J J J J J J (by simp[Ad];omega) ?_|refine Af Ab J J J J J J J J J J J J J J (by simp[Ad];omega) ?_|refine BH Z ?_|refine BF Z ?_|refine BG Z J ?_|refine A8 Ab J J J J J (fun _=>rfl) (fun b hb=>?_)|refine As J J J J ?_|refine A4 ?_|(refine A5 J J J J J (ht:=fun h=>?_) (hf:=fun h=>?_)<;>try exact prn)|(refine A6 J J J J J (ht:=fun h=>?_) (hf:=fun h=>?_)<;>try exact prn)|refine Ai J J J J J ?_|refine An J J J J J J J (Ac Z) J ?_|refine Ao J J J J J J J Z (Ac Z) J ?_|refine Ca Ab J J J J J J J J hlt J ?_|refine Cr Ab J J J J J hg J J ?_|refine AR Ab [(1,1)] [(1,1)] J J J J J hc J J J J J ?_)
   refine BB (i+1) ⟨by omega,hj⟩ O [] (Av J J (Av J J (Av J J (Av J ?_ AJ)))) J
   rw[AW O O];rfl
  |some p=>
   have hV:VS 2 s (s i):=⟨i,hi,J,.inr (by rw[he];simp),hpre⟩
   obtain⟨f,hf⟩: ∃f,([105,106]:List Nat)[i]?=some f:=⟨_,List.getElem?_eq_getElem hlt⟩
   have hg:[clR 105,clR 106][0+i]?=some (clR f):=by
    rw[Nat.zero_add]
    show(List.map clR [105,106])[i]?=_
    rw[List.getElem?_map,hf];rfl
   generalize hx:s i=x at hV he
   obtain⟨xq,xb,xe⟩:=x
   dsimp only at he
   subst he
   repeat'(first|refine Ak Ab J J J J J ?_|refine Ap Ab J J J ?_|refine A0 ?_|refine AP (fun _ _ _ _=>?_)|refine Aw Ab J J ?_|(refine A1 J J J J J (ht:=fun h=>?_) (hf:=fun h=>?_)<;>try exact prn)|(refine A2 J J J J J (ht:=fun h=>?_) (hf:=fun h=>?_)<;>try exact prn)|refine Ag J J J J J ?_|(refine Al J (ht:=fun h=>?_) (hf:=fun h=>?_)<;>try exact prn)|refine AG (fun _ _ _ _ _=>?_)|refine Aq ?_|refine Ar ?_|refine A3 ?_|refine Aj Ab J J J J J J J (Ac Z) J ?_|refine Ae Ab J J J J J J J Z (Ac Z) J ?_|refine Ah Ab J J J J J J J J J J J J J (by simp[Ad];omega) ?_|refine Af Ab J J J J J J J J J J J J J J (by simp[Ad];omega) ?_|refine BH Z ?_|refine BF Z ?_|refine BG Z J ?_|refine A8 Ab J J J J J (fun _=>rfl) (fun b hb=>?_)|refine As J J J J ?_|refine A4 ?_|(refine A5 J J J J J (ht:=fun h=>?_) (hf:=fun h=>?_)<;>try exact prn)|(refine A6 J J J J J (ht:=fun h=>?_) (hf:=fun h=>?_)<;>try exact prn)|refine Ai J J J J J ?_|refine An J J J J J J J (Ac Z) J ?_|refine Ao J J J J J J J Z (Ac Z) J ?_|refine Ca Ab J J J J J J J J hlt J ?_|refine Cr Ab J J J J J hg J J ?_)
   exact Cq _ hV [8] J J J (Sub.refl _)
 ·have e:i=2:=by omega
  subst e
  have hV:VS 2 s (s 2):=⟨2,hi,J,.inl J,hpre⟩
  repeat'(first|refine Ak Ab J J J J J ?_|refine Ap Ab J J J ?_|refine A0 ?_|refine AP (fun _ _ _ _=>?_)|refine Aw Ab J J ?_|(refine A1 J J J J J (ht:=fun h=>?_) (hf:=fun h=>?_)<;>try exact prn)|(refine A2 J J J J J (ht:=fun h=>?_) (hf:=fun h=>?_)<;>try exact prn)|refine Ag J J J J J ?_|(refine Al J (ht:=fun h=>?_) (hf:=fun h=>?_)<;>try exact prn)|refine AG (fun _ _ _ _ _=>?_)|refine Aq ?_|refine Ar ?_|refine A3 ?_|refine Aj Ab J J J J J J J (Ac Z) J ?_|refine Ae Ab J J J J J J J Z (Ac Z) J ?_|refine Ah Ab J J J J J J J J J J J J J (by simp[Ad];omega) ?_|refine Af Ab J J J J J J J J J J J J J J (by simp[Ad];omega) ?_|refine BH Z ?_|refine BF Z ?_|refine BG Z J ?_|refine A8 Ab J J J J J (fun _=>rfl) (fun b hb=>?_)|refine As J J J J ?_|refine A4 ?_|(refine A5 J J J J J (ht:=fun h=>?_) (hf:=fun h=>?_)<;>try exact prn)|(refine A6 J J J J J (ht:=fun h=>?_) (hf:=fun h=>?_)<;>try exact prn)|refine Ai J J J J J ?_|refine An J J J J J J J (Ac Z) J ?_|refine Ao J J J J J J J Z (Ac Z) J ?_)
  exact DO _ hV [8] J J J (Sub.refl _)
def Ii (q:Req):Nat→RS:=fun i=>match i with
  |0=>⟨q,[],none⟩
  |1=>AL ⟨q,[],none⟩
  |_=>CJ (AL ⟨q,[],none⟩)
theorem XY (q:Req) (hk:q.kind=2) (hq:q.b.recs.length≤1000000):CtF Tryz.prog 55 [.ref 1 0,.t (.int .i8 2)] (wS ⟨q,[],none⟩) (VR q) (fun _=>.tuple []) wS:=by
 have hw:=Vl (Ii q) (fun i hi h=>by
  match i,hi,h with
  |0,_,h=>exact⟨_,J,DZ (Ii q 0) (h 0 O) (Nat.le_trans (Nat.le_refl 0) O)⟩
  |1,_,h=>exact⟨_,J,Ox _ (h 1 O) (Nat.le_trans (BV ⟨q,[],none⟩ 0 (h 1 O) (Nat.le_refl 0)) O) (show(AL ⟨q,[],none⟩).q.b.recs.length≤1000000 by rw[Sr];exact hq)⟩
  |_+2,hi,_=>exact absurd hi O)
 refine CtF.imp hw fun x hx=>?_
 obtain⟨i,hi,rfl,hend,hpre⟩:=hx
 by_cases h0:0≤q.part∧q.part≤2
 ·skip
  by_cases h1:B3 q.b=true
  ·have hn: ∀j,j≤2→(Ii q j).err=none:=fun j hj=>by
    match j,hj with
    |0,_=>simp[Ii,AL,CJ,h0,h1]
    |1,_=>simp[Ii,AL,CJ,h0,h1]
    |2,_=>simp[Ii,AL,CJ,h0,h1]
    |_+3,hj=>exact absurd hj O
   have e:i=2:=hend.elim id (fun h=>absurd (hn i hi) h)
   subst e
   exact⟨⟨fun _=>by simp[Bi,hk,h0,h1],fun _=>hn 2 (Nat.le_refl _)⟩,fun _=>⟨by simp[Ii,Co,hk,AL,CJ,h0,h1],Nat.le_trans (NC (Ii q 1) 6 (hn 2 O) (BV (Ii q 0) 0 (hn 1 O) (Nat.le_refl 0))) O⟩⟩
  ·have hbad:(Ii q 2).err≠none:=by simp[Ii,AL,CJ,h0,h1]
   have hne:(Ii q i).err≠none:=fun e=>by
    rcases hend with rfl|h
    ·exact hbad e
    ·exact h e
   have hr:Bi q=false:=by simp only[Bi,hk];simp;grind
   exact⟨⟨fun e=>absurd e hne,fun e=>by rw[hr]at e;cases e⟩,fun e=>absurd e hne⟩
 ·have hbad:(Ii q 1).err≠none:=by simp[Ii,AL,CJ,h0]
  have hne:(Ii q i).err≠none:=fun e=>by
   rcases hend with rfl|h
   ·exact hbad (hpre 1 O)
   ·exact h e
  have hr:Bi q=false:=by simp only[Bi,hk];simp;grind
  exact⟨⟨fun e=>absurd e hne,fun e=>by rw[hr]at e;cases e⟩,fun e=>absurd e hne⟩
theorem Vk (s:Nat→RS) (hs: ∀i,i<5→(∀j,j≤i→(s j).err=none)→ ∃f,([107,108,112,105,110]:List Nat)[i]?=some f∧Ct Tryz.prog f [.ref 1 0] (wS (s i)) (.tuple []) (wS (s (i+1)))):CtF Tryz.prog 55 [.ref 1 0,.t (.int .i8 3)] (wS (s 0)) (VS 5 s) (fun _=>.tuple []) wS:=by
 refine ctF Ab Tryz.func55 J J ?_
 repeat'(first|refine Ak Ab J J J J J ?_|refine Ap Ab J J J ?_|refine A0 ?_|refine AP (fun _ _ _ _=>?_)|refine Aw Ab J J ?_|(refine A1 J J J J J (ht:=fun h=>?_) (hf:=fun h=>?_)<;>try exact prn)|(refine A2 J J J J J (ht:=fun h=>?_) (hf:=fun h=>?_)<;>try exact prn)|refine Ag J J J J J ?_|(refine Al J (ht:=fun h=>?_) (hf:=fun h=>?_)<;>try exact prn)|refine AG (fun _ _ _ _ _=>?_)|refine Aq ?_|refine Ar ?_|refine A3 ?_|refine Aj Ab J J J J J J J (Ac Z) J ?_|refine Ae Ab J J J J J J J Z (Ac Z) J ?_|refine Ah Ab J J J J J J J J J J J J J (by simp[Ad];omega) ?_|refine Af Ab J J J J J J J J J J J J J J (by simp[Ad];omega) ?_|refine BH Z ?_|refine BF Z ?_|refine BG Z J ?_|refine A8 Ab J J J J J (fun _=>rfl) (fun b hb=>?_)|refine As J J J J ?_|refine A4 ?_|(refine A5 J J J J J (ht:=fun h=>?_) (hf:=fun h=>?_)<;>try exact prn)|(refine A6 J J J J J (ht:=fun h=>?_) (hf:=fun h=>?_)<;>try exact prn)|refine Ai J J J J J ?_|refine An J J J J J J J (Ac Z) J ?_|refine Ao J J J J J J J Z (Ac Z) J ?_|refine EF Ab [(1,1)] [(1,1),(126,16)] J J J J J (Vx (s 0)) J (fun _ _=>rfl) (fun _ _=>rfl) (fun _ _=>rfl) (fun j _=>?_))
 refine Tr.perm (σ':=[(1,.cells (Ci (s 0))),(16,.cells ([clR 107,clR 108,clR 112,clR 105,clR 110]++List.replicate j AV.top))]) (fun b=>(DJ b).trans (congrArg (fun s=>Am.look s b) (show[(16,Blk.cells ([clR 107,clR 108,clR 112,clR 105,clR 110]++List.replicate j AV.top)),(1,Blk.cells (Ci (s 0)))]=[(16,Blk.cells (DN (Am.look [(1,1),(126,16)]) ([clR 107,clR 108,clR 112,clR 105,clR 110]++List.replicate j AV.top))),(1,Blk.cells (Ci (s 0)))]by rw[Fd];rfl))) ?_
 refine BC (ι:=Nat) (fun i=>i≤5∧ ∀j,j<i→(s j).err=none) (fun i=>[(0,.ref 1 0),(8,.row 16 1 0 5),(9,.t (.int .i64 5)),(10,.t (.int .i64 i))]) (fun i=>[(1,.cells (Ci (s i))),(16,.cells ([clR 107,clR 108,clR 112,clR 105,clR 110]++List.replicate j AV.top))]) (fun i=>5-i) 0 ⟨by omega,fun j hj=>by omega⟩ ?_ ?_
 ·exact Ce [] (Av J J (Av J J (Av J J (Av J J AJ)))) J
 rintro i ⟨hi,hpre⟩
 by_cases hlt:i<5
 ·cases he:(s i).err with
  |none=>
   have hj: ∀j,j<i+1→(s j).err=none:=fun j hj=>by
    by_cases e:j=i
    ·subst e;exact he
    ·exact hpre j O
   obtain⟨f,hf,hc⟩:=hs i hlt (fun j hjl=>hj j O)
   have hg:([clR 107,clR 108,clR 112,clR 105,clR 110]++List.replicate j AV.top)[0+i]?=some (clR f):=by
    rw[Nat.zero_add]
    refine HE ?_ _
    show(List.map clR [107,108,112,105,110])[i]?=_
    rw[List.getElem?_map,hf];rfl
   generalize hx:s i=x at hc he
   obtain⟨xq,xb,xe⟩:=x
   dsimp only at he
   subst he
   repeat'(first|refine Ak Ab J J J J J ?_|refine Ap Ab J J J ?_|refine A0 ?_|refine AP (fun _ _ _ _=>?_)|refine Aw Ab J J ?_|(refine A1 J J J J J (ht:=fun h=>?_) (hf:=fun h=>?_)<;>try exact prn)|(refine A2 J J J J J (ht:=fun h=>?_) (hf:=fun h=>?_)<;>try exact prn)|refine Ag J J J J J ?_|(refine Al J (ht:=fun h=>?_) (hf:=fun h=>?_)<;>try exact prn)|refine AG (fun _ _ _ _ _=>?_)|refine Aq ?_|refine Ar ?_|refine A3 ?_|refine Aj Ab J J J J J J J (Ac Z) J ?_|refine Ae Ab J J J J J J J Z (Ac Z) J ?_|refine Ah Ab J J J J J J J J J J J J J (by simp[Ad];omega) ?_|refine Af Ab J J J J J J J J J J J J J J (by simp[Ad];omega) ?_|refine BH Z ?_|refine BF Z ?_|refine BG Z J ?_|refine A8 Ab J J J J J (fun _=>rfl) (fun b hb=>?_)|refine As J J J J ?_|refine A4 ?_|(refine A5 J J J J J (ht:=fun h=>?_) (hf:=fun h=>?_)<;>try exact prn)|(refine A6 J J J J J (ht:=fun h=>?_) (hf:=fun h=>?_)<;>try exact prn)|refine Ai J J J J J ?_|refine An J J J J J J J (Ac Z) J ?_|refine Ao J J J J J J J Z (Ac Z) J ?_|refine Ca Ab J J J J J J J J hlt J ?_|refine Cr Ab J J J J J hg J J ?_|refine AR Ab [(1,1)] [(1,1)] J J J J J hc J J J J J ?_)
   refine BB (i+1) ⟨by omega,hj⟩ O [] (Av J J (Av J J (Av J J (Av J ?_ AJ)))) ((congrArg (fun l=>[(1,Blk.cells (Ci (s (i+1)))),(16,Blk.cells l)]) (Fd (Dw [(1,1)] [(1,.cells (Ci ⟨xq,xb,none⟩)),(16,.cells ([clR 107,clR 108,clR 112,clR 105,clR 110]++List.replicate j AV.top))]) j [clR 107,clR 108,clR 112,clR 105,clR 110])).trans J)
   rw[AW O O];rfl
  |some p=>
   have hV:VS 5 s (s i):=⟨i,hi,J,.inr (by rw[he];simp),hpre⟩
   obtain⟨f,hf⟩: ∃f,([107,108,112,105,110]:List Nat)[i]?=some f:=⟨_,List.getElem?_eq_getElem hlt⟩
   have hg:([clR 107,clR 108,clR 112,clR 105,clR 110]++List.replicate j AV.top)[0+i]?=some (clR f):=by
    rw[Nat.zero_add]
    refine HE ?_ _
    show(List.map clR [107,108,112,105,110])[i]?=_
    rw[List.getElem?_map,hf];rfl
   generalize hx:s i=x at hV he
   obtain⟨xq,xb,xe⟩:=x
   dsimp only at he
   subst he
   repeat'(first|refine Ak Ab J J J J J ?_|refine Ap Ab J J J ?_|refine A0 ?_|refine AP (fun _ _ _ _=>?_)|refine Aw Ab J J ?_|(refine A1 J J J J J (ht:=fun h=>?_) (hf:=fun h=>?_)<;>try exact prn)|(refine A2 J J J J J (ht:=fun h=>?_) (hf:=fun h=>?_)<;>try exact prn)|refine Ag J J J J J ?_|(refine Al J (ht:=fun h=>?_) (hf:=fun h=>?_)<;>try exact prn)|refine AG (fun _ _ _ _ _=>?_)|refine Aq ?_|refine Ar ?_|refine A3 ?_|refine Aj Ab J J J J J J J (Ac Z) J ?_|refine Ae Ab J J J J J J J Z (Ac Z) J ?_|refine Ah Ab J J J J J J J J J J J J J (by simp[Ad];omega) ?_|refine Af Ab J J J J J J J J J J J J J J (by simp[Ad];omega) ?_|refine BH Z ?_|refine BF Z ?_|refine BG Z J ?_|refine A8 Ab J J J J J (fun _=>rfl) (fun b hb=>?_)|refine As J J J J ?_|refine A4 ?_|(refine A5 J J J J J (ht:=fun h=>?_) (hf:=fun h=>?_)<;>try exact prn)|(refine A6 J J J J J (ht:=fun h=>?_) (hf:=fun h=>?_)<;>try exact prn)|refine Ai J J J J J ?_|refine An J J J J J J J (Ac Z) J ?_|refine Ao J J J J J J J Z (Ac Z) J ?_|refine Ca Ab J J J J J J J J hlt J ?_|refine Cr Ab J J J J J hg J J ?_)
   exact Cq _ hV [8] J J J (Sub.refl _)
 ·have e:i=5:=by omega
  subst e
  have hV:VS 5 s (s 5):=⟨5,hi,J,.inl J,hpre⟩
  repeat'(first|refine Ak Ab J J J J J ?_|refine Ap Ab J J J ?_|refine A0 ?_|refine AP (fun _ _ _ _=>?_)|refine Aw Ab J J ?_|(refine A1 J J J J J (ht:=fun h=>?_) (hf:=fun h=>?_)<;>try exact prn)|(refine A2 J J J J J (ht:=fun h=>?_) (hf:=fun h=>?_)<;>try exact prn)|refine Ag J J J J J ?_|(refine Al J (ht:=fun h=>?_) (hf:=fun h=>?_)<;>try exact prn)|refine AG (fun _ _ _ _ _=>?_)|refine Aq ?_|refine Ar ?_|refine A3 ?_|refine Aj Ab J J J J J J J (Ac Z) J ?_|refine Ae Ab J J J J J J J Z (Ac Z) J ?_|refine Ah Ab J J J J J J J J J J J J J (by simp[Ad];omega) ?_|refine Af Ab J J J J J J J J J J J J J J (by simp[Ad];omega) ?_|refine BH Z ?_|refine BF Z ?_|refine BG Z J ?_|refine A8 Ab J J J J J (fun _=>rfl) (fun b hb=>?_)|refine As J J J J ?_|refine A4 ?_|(refine A5 J J J J J (ht:=fun h=>?_) (hf:=fun h=>?_)<;>try exact prn)|(refine A6 J J J J J (ht:=fun h=>?_) (hf:=fun h=>?_)<;>try exact prn)|refine Ai J J J J J ?_|refine An J J J J J J J (Ac Z) J ?_|refine Ao J J J J J J J Z (Ac Z) J ?_)
  exact DO _ hV [8] J J J (Sub.refl _)
def CA (q:Req):Nat→RS:=fun i=>match i with
  |0=>⟨q,[],none⟩
  |1=>BQ ⟨q,[],none⟩
  |2=>Bz (BQ ⟨q,[],none⟩)
  |3=>AX (Bz (BQ ⟨q,[],none⟩))
  |4=>AL (AX (Bz (BQ ⟨q,[],none⟩)))
  |_=>AM (AL (AX (Bz (BQ ⟨q,[],none⟩))))
theorem XX (q:Req) (hk:q.kind=3) (hq:q.b.recs.length≤1000000):CtF Tryz.prog 55 [.ref 1 0,.t (.int .i8 3)] (wS ⟨q,[],none⟩) (VR q) (fun _=>.tuple []) wS:=by
 have hw:=Vk (CA q) (fun i hi h=>by
  match i,hi,h with
  |0,_,h=>exact⟨_,J,MJ (CA q 0) (h 0 O) (Nat.le_trans (Nat.le_refl 0) O)⟩
  |1,_,h=>exact⟨_,J,Kn (CA q 1) (h 1 O) (Nat.le_trans (Dh (CA q 0) 0 (h 1 O) (Nat.le_refl 0)) O)⟩
  |2,_,h=>exact⟨_,J,GK (CA q 2) (h 2 O) (Nat.le_trans (Do (CA q 1) 6 (h 2 O) (Dh (CA q 0) 0 (h 1 O) (Nat.le_refl 0))) O)⟩
  |3,_,h=>exact⟨_,J,DZ (CA q 3) (h 3 O) (Nat.le_trans (C9 (CA q 2) 12 (h 3 O) (Do (CA q 1) 6 (h 2 O) (Dh (CA q 0) 0 (h 1 O) (Nat.le_refl 0)))) O)⟩
  |4,_,h=>exact⟨_,J,EH (CA q 4) (h 4 O) (Nat.le_trans (BV (CA q 3) 18 (h 4 O) (C9 (CA q 2) 12 (h 3 O) (Do (CA q 1) 6 (h 2 O) (Dh (CA q 0) 0 (h 1 O) (Nat.le_refl 0))))) O)⟩
  |_+5,hi,_=>exact absurd hi O)
 refine CtF.imp hw fun x hx=>?_
 obtain⟨i,hi,rfl,hend,hpre⟩:=hx
 by_cases h0:1≤q.pid∧q.pid≤8
 ·skip
  by_cases h1:0≤q.epoch∧q.epoch≤100
  ·skip
   by_cases h2:0≤q.group∧q.group≤1
   ·skip
    by_cases h3:0≤q.part∧q.part≤2
    ·skip
     by_cases h4:0≤q.offset∧q.offset≤1048576
     ·have hn: ∀j,j≤5→(CA q j).err=none:=fun j hj=>by
       match j,hj with
       |0,_=>simp[CA,BQ,Bz,AX,AL,AM,h0,h1,h2,h3,h4]
       |1,_=>simp[CA,BQ,Bz,AX,AL,AM,h0,h1,h2,h3,h4]
       |2,_=>simp[CA,BQ,Bz,AX,AL,AM,h0,h1,h2,h3,h4]
       |3,_=>simp[CA,BQ,Bz,AX,AL,AM,h0,h1,h2,h3,h4]
       |4,_=>simp[CA,BQ,Bz,AX,AL,AM,h0,h1,h2,h3,h4]
       |5,_=>simp[CA,BQ,Bz,AX,AL,AM,h0,h1,h2,h3,h4]
       |_+6,hj=>exact absurd hj O
      have e:i=5:=hend.elim id (fun h=>absurd (hn i hi) h)
      subst e
      exact⟨⟨fun _=>by simp[Bi,hk,h0,h1,h2,h3,h4],fun _=>hn 5 (Nat.le_refl _)⟩,fun _=>⟨by simp[CA,Co,hk,BQ,Bz,AX,AL,AM,h0,h1,h2,h3,h4],Nat.le_trans (CZ (CA q 4) 24 (hn 5 O) (BV (CA q 3) 18 (hn 4 O) (C9 (CA q 2) 12 (hn 3 O) (Do (CA q 1) 6 (hn 2 O) (Dh (CA q 0) 0 (hn 1 O) (Nat.le_refl 0)))))) O⟩⟩
     ·have hbad:(CA q 5).err≠none:=by simp[CA,BQ,Bz,AX,AL,AM,h0,h1,h2,h3,h4]
      have hne:(CA q i).err≠none:=fun e=>by
       rcases hend with rfl|h
       ·exact hbad e
       ·exact h e
      have hr:Bi q=false:=by simp only[Bi,hk];simp;grind
      exact⟨⟨fun e=>absurd e hne,fun e=>by rw[hr]at e;cases e⟩,fun e=>absurd e hne⟩
    ·have hbad:(CA q 4).err≠none:=by simp[CA,BQ,Bz,AX,AL,AM,h0,h1,h2,h3]
     have hne:(CA q i).err≠none:=fun e=>by
      rcases hend with rfl|h
      ·exact hbad (hpre 4 O)
      ·exact h e
     have hr:Bi q=false:=by simp only[Bi,hk];simp;grind
     exact⟨⟨fun e=>absurd e hne,fun e=>by rw[hr]at e;cases e⟩,fun e=>absurd e hne⟩
   ·have hbad:(CA q 3).err≠none:=by simp[CA,BQ,Bz,AX,AL,AM,h0,h1,h2]
    have hne:(CA q i).err≠none:=fun e=>by
     rcases hend with rfl|h
     ·exact hbad (hpre 3 O)
     ·exact h e
    have hr:Bi q=false:=by simp only[Bi,hk];simp;grind
    exact⟨⟨fun e=>absurd e hne,fun e=>by rw[hr]at e;cases e⟩,fun e=>absurd e hne⟩
  ·have hbad:(CA q 2).err≠none:=by simp[CA,BQ,Bz,AX,AL,AM,h0,h1]
   have hne:(CA q i).err≠none:=fun e=>by
    rcases hend with rfl|h
    ·exact hbad (hpre 2 O)
    ·exact h e
   have hr:Bi q=false:=by simp only[Bi,hk];simp;grind
   exact⟨⟨fun e=>absurd e hne,fun e=>by rw[hr]at e;cases e⟩,fun e=>absurd e hne⟩
 ·have hbad:(CA q 1).err≠none:=by simp[CA,BQ,Bz,AX,AL,AM,h0]
  have hne:(CA q i).err≠none:=fun e=>by
   rcases hend with rfl|h
   ·exact hbad (hpre 1 O)
   ·exact h e
  have hr:Bi q=false:=by simp only[Bi,hk];simp;grind
  exact⟨⟨fun e=>absurd e hne,fun e=>by rw[hr]at e;cases e⟩,fun e=>absurd e hne⟩
theorem Vj (s:Nat→RS) (hs: ∀i,i<3→(∀j,j≤i→(s j).err=none)→ ∃f,([107,108,109]:List Nat)[i]?=some f∧Ct Tryz.prog f [.ref 1 0] (wS (s i)) (.tuple []) (wS (s (i+1)))):CtF Tryz.prog 55 [.ref 1 0,.t (.int .i8 4)] (wS (s 0)) (VS 3 s) (fun _=>.tuple []) wS:=by
 refine ctF Ab Tryz.func55 J J ?_
 repeat'(first|refine Ak Ab J J J J J ?_|refine Ap Ab J J J ?_|refine A0 ?_|refine AP (fun _ _ _ _=>?_)|refine Aw Ab J J ?_|(refine A1 J J J J J (ht:=fun h=>?_) (hf:=fun h=>?_)<;>try exact prn)|(refine A2 J J J J J (ht:=fun h=>?_) (hf:=fun h=>?_)<;>try exact prn)|refine Ag J J J J J ?_|(refine Al J (ht:=fun h=>?_) (hf:=fun h=>?_)<;>try exact prn)|refine AG (fun _ _ _ _ _=>?_)|refine Aq ?_|refine Ar ?_|refine A3 ?_|refine Aj Ab J J J J J J J (Ac Z) J ?_|refine Ae Ab J J J J J J J Z (Ac Z) J ?_|refine Ah Ab J J J J J J J J J J J J J (by simp[Ad];omega) ?_|refine Af Ab J J J J J J J J J J J J J J (by simp[Ad];omega) ?_|refine BH Z ?_|refine BF Z ?_|refine BG Z J ?_|refine A8 Ab J J J J J (fun _=>rfl) (fun b hb=>?_)|refine As J J J J ?_|refine A4 ?_|(refine A5 J J J J J (ht:=fun h=>?_) (hf:=fun h=>?_)<;>try exact prn)|(refine A6 J J J J J (ht:=fun h=>?_) (hf:=fun h=>?_)<;>try exact prn)|refine Ai J J J J J ?_|refine An J J J J J J J (Ac Z) J ?_|refine Ao J J J J J J J Z (Ac Z) J ?_|refine AR Ab [(1,1)] [(1,1),(84,16)] J J J J J (Vw (s 0)) J J J J J ?_)
 refine Tr.perm (σ':=[(1,.cells (Ci (s 0))),(16,.cells [clR 107,clR 108,clR 109])]) DJ ?_
 refine BC (ι:=Nat) (fun i=>i≤3∧ ∀j,j<i→(s j).err=none) (fun i=>[(0,.ref 1 0),(8,.row 16 1 0 3),(9,.t (.int .i64 3)),(10,.t (.int .i64 i))]) (fun i=>[(1,.cells (Ci (s i))),(16,.cells [clR 107,clR 108,clR 109])]) (fun i=>3-i) 0 ⟨by omega,fun j hj=>by omega⟩ ?_ ?_
 ·exact Ce [] (Av J J (Av J J (Av J J (Av J J AJ)))) J
 rintro i ⟨hi,hpre⟩
 by_cases hlt:i<3
 ·cases he:(s i).err with
  |none=>
   have hj: ∀j,j<i+1→(s j).err=none:=fun j hj=>by
    by_cases e:j=i
    ·subst e;exact he
    ·exact hpre j O
   obtain⟨f,hf,hc⟩:=hs i hlt (fun j hjl=>hj j O)
   have hg:[clR 107,clR 108,clR 109][0+i]?=some (clR f):=by
    rw[Nat.zero_add]
    show(List.map clR [107,108,109])[i]?=_
    rw[List.getElem?_map,hf];rfl
   generalize hx:s i=x at hc he
   obtain⟨xq,xb,xe⟩:=x
   dsimp only at he
   subst he
   repeat'(first|refine Ak Ab J J J J J ?_|refine Ap Ab J J J ?_|refine A0 ?_|refine AP (fun _ _ _ _=>?_)|refine Aw Ab J J ?_|(refine A1 J J J J J (ht:=fun h=>?_) (hf:=fun h=>?_)<;>try exact prn)|(refine A2 J J J J J (ht:=fun h=>?_) (hf:=fun h=>?_)<;>try exact prn)|refine Ag J J J J J ?_|(refine Al J (ht:=fun h=>?_) (hf:=fun h=>?_)<;>try exact prn)|refine AG (fun _ _ _ _ _=>?_)|refine Aq ?_|refine Ar ?_|refine A3 ?_|refine Aj Ab J J J J J J J (Ac Z) J ?_|refine Ae Ab J J J J J J J Z (Ac Z) J ?_|refine Ah Ab J J J J J J J J J J J J J (by simp[Ad];omega) ?_|refine Af Ab J J J J J J J J J J J J J J (by simp[Ad];omega) ?_|refine BH Z ?_|refine BF Z ?_|refine BG Z J ?_|refine A8 Ab J J J J J (fun _=>rfl) (fun b hb=>?_)|refine As J J J J ?_|refine A4 ?_|(refine A5 J J J J J (ht:=fun h=>?_) (hf:=fun h=>?_)<;>try exact prn)|(refine A6 J J J J J (ht:=fun h=>?_) (hf:=fun h=>?_)<;>try exact prn)|refine Ai J J J J J ?_|refine An J J J J J J J (Ac Z) J ?_|refine Ao J J J J J J J Z (Ac Z) J ?_|refine Ca Ab J J J J J J J J hlt J ?_|refine Cr Ab J J J J J hg J J ?_|refine AR Ab [(1,1)] [(1,1)] J J J J J hc J J J J J ?_)
   refine BB (i+1) ⟨by omega,hj⟩ O [] (Av J J (Av J J (Av J J (Av J ?_ AJ)))) J
   rw[AW O O];rfl
  |some p=>
   have hV:VS 3 s (s i):=⟨i,hi,J,.inr (by rw[he];simp),hpre⟩
   obtain⟨f,hf⟩: ∃f,([107,108,109]:List Nat)[i]?=some f:=⟨_,List.getElem?_eq_getElem hlt⟩
   have hg:[clR 107,clR 108,clR 109][0+i]?=some (clR f):=by
    rw[Nat.zero_add]
    show(List.map clR [107,108,109])[i]?=_
    rw[List.getElem?_map,hf];rfl
   generalize hx:s i=x at hV he
   obtain⟨xq,xb,xe⟩:=x
   dsimp only at he
   subst he
   repeat'(first|refine Ak Ab J J J J J ?_|refine Ap Ab J J J ?_|refine A0 ?_|refine AP (fun _ _ _ _=>?_)|refine Aw Ab J J ?_|(refine A1 J J J J J (ht:=fun h=>?_) (hf:=fun h=>?_)<;>try exact prn)|(refine A2 J J J J J (ht:=fun h=>?_) (hf:=fun h=>?_)<;>try exact prn)|refine Ag J J J J J ?_|(refine Al J (ht:=fun h=>?_) (hf:=fun h=>?_)<;>try exact prn)|refine AG (fun _ _ _ _ _=>?_)|refine Aq ?_|refine Ar ?_|refine A3 ?_|refine Aj Ab J J J J J J J (Ac Z) J ?_|refine Ae Ab J J J J J J J Z (Ac Z) J ?_|refine Ah Ab J J J J J J J J J J J J J (by simp[Ad];omega) ?_|refine Af Ab J J J J J J J J J J J J J J (by simp[Ad];omega) ?_|refine BH Z ?_|refine BF Z ?_|refine BG Z J ?_|refine A8 Ab J J J J J (fun _=>rfl) (fun b hb=>?_)|refine As J J J J ?_|refine A4 ?_|(refine A5 J J J J J (ht:=fun h=>?_) (hf:=fun h=>?_)<;>try exact prn)|(refine A6 J J J J J (ht:=fun h=>?_) (hf:=fun h=>?_)<;>try exact prn)|refine Ai J J J J J ?_|refine An J J J J J J J (Ac Z) J ?_|refine Ao J J J J J J J Z (Ac Z) J ?_|refine Ca Ab J J J J J J J J hlt J ?_|refine Cr Ab J J J J J hg J J ?_)
   exact Cq _ hV [8] J J J (Sub.refl _)
 ·have e:i=3:=by omega
  subst e
  have hV:VS 3 s (s 3):=⟨3,hi,J,.inl J,hpre⟩
  repeat'(first|refine Ak Ab J J J J J ?_|refine Ap Ab J J J ?_|refine A0 ?_|refine AP (fun _ _ _ _=>?_)|refine Aw Ab J J ?_|(refine A1 J J J J J (ht:=fun h=>?_) (hf:=fun h=>?_)<;>try exact prn)|(refine A2 J J J J J (ht:=fun h=>?_) (hf:=fun h=>?_)<;>try exact prn)|refine Ag J J J J J ?_|(refine Al J (ht:=fun h=>?_) (hf:=fun h=>?_)<;>try exact prn)|refine AG (fun _ _ _ _ _=>?_)|refine Aq ?_|refine Ar ?_|refine A3 ?_|refine Aj Ab J J J J J J J (Ac Z) J ?_|refine Ae Ab J J J J J J J Z (Ac Z) J ?_|refine Ah Ab J J J J J J J J J J J J J (by simp[Ad];omega) ?_|refine Af Ab J J J J J J J J J J J J J J (by simp[Ad];omega) ?_|refine BH Z ?_|refine BF Z ?_|refine BG Z J ?_|refine A8 Ab J J J J J (fun _=>rfl) (fun b hb=>?_)|refine As J J J J ?_|refine A4 ?_|(refine A5 J J J J J (ht:=fun h=>?_) (hf:=fun h=>?_)<;>try exact prn)|(refine A6 J J J J J (ht:=fun h=>?_) (hf:=fun h=>?_)<;>try exact prn)|refine Ai J J J J J ?_|refine An J J J J J J J (Ac Z) J ?_|refine Ao J J J J J J J Z (Ac Z) J ?_)
  exact DO _ hV [8] J J J (Sub.refl _)
def Fr (q:Req):Nat→RS:=fun i=>match i with
  |0=>⟨q,[],none⟩
  |1=>BQ ⟨q,[],none⟩
  |2=>Bz (BQ ⟨q,[],none⟩)
  |_=>C7 (Bz (BQ ⟨q,[],none⟩))
theorem XW (q:Req) (hk:q.kind=4) (hq:q.b.recs.length≤1000000):CtF Tryz.prog 55 [.ref 1 0,.t (.int .i8 4)] (wS ⟨q,[],none⟩) (VR q) (fun _=>.tuple []) wS:=by
 have hw:=Vj (Fr q) (fun i hi h=>by
  match i,hi,h with
  |0,_,h=>exact⟨_,J,MJ (Fr q 0) (h 0 O) (Nat.le_trans (Nat.le_refl 0) O)⟩
  |1,_,h=>exact⟨_,J,Kn (Fr q 1) (h 1 O) (Nat.le_trans (Dh (Fr q 0) 0 (h 1 O) (Nat.le_refl 0)) O)⟩
  |2,_,h=>exact⟨_,J,MI (Fr q 2) (h 2 O) (Nat.le_trans (Do (Fr q 1) 6 (h 2 O) (Dh (Fr q 0) 0 (h 1 O) (Nat.le_refl 0))) O)⟩
  |_+3,hi,_=>exact absurd hi O)
 refine CtF.imp hw fun x hx=>?_
 obtain⟨i,hi,rfl,hend,hpre⟩:=hx
 by_cases h0:1≤q.pid∧q.pid≤8
 ·skip
  by_cases h1:0≤q.epoch∧q.epoch≤100
  ·have hn: ∀j,j≤3→(Fr q j).err=none:=fun j hj=>by
    match j,hj with
    |0,_=>simp[Fr,BQ,Bz,C7,h0,h1]
    |1,_=>simp[Fr,BQ,Bz,C7,h0,h1]
    |2,_=>simp[Fr,BQ,Bz,C7,h0,h1]
    |3,_=>simp[Fr,BQ,Bz,C7,h0,h1]
    |_+4,hj=>exact absurd hj O
   have e:i=3:=hend.elim id (fun h=>absurd (hn i hi) h)
   subst e
   exact⟨⟨fun _=>by simp[Bi,hk,h0,h1],fun _=>hn 3 (Nat.le_refl _)⟩,fun _=>⟨by simp[Fr,Co,hk,BQ,Bz,C7,h0,h1],Nat.le_trans (Lb (Fr q 2) 12 (hn 3 O) (Do (Fr q 1) 6 (hn 2 O) (Dh (Fr q 0) 0 (hn 1 O) (Nat.le_refl 0)))) O⟩⟩
  ·have hbad:(Fr q 2).err≠none:=by simp[Fr,BQ,Bz,C7,h0,h1]
   have hne:(Fr q i).err≠none:=fun e=>by
    rcases hend with rfl|h
    ·exact hbad (hpre 2 O)
    ·exact h e
   have hr:Bi q=false:=by simp only[Bi,hk];simp;grind
   exact⟨⟨fun e=>absurd e hne,fun e=>by rw[hr]at e;cases e⟩,fun e=>absurd e hne⟩
 ·have hbad:(Fr q 1).err≠none:=by simp[Fr,BQ,Bz,C7,h0]
  have hne:(Fr q i).err≠none:=fun e=>by
   rcases hend with rfl|h
   ·exact hbad (hpre 1 O)
   ·exact h e
  have hr:Bi q=false:=by simp only[Bi,hk];simp;grind
  exact⟨⟨fun e=>absurd e hne,fun e=>by rw[hr]at e;cases e⟩,fun e=>absurd e hne⟩
theorem Vi (s:Nat→RS) (hs: ∀i,i<4→(∀j,j≤i→(s j).err=none)→ ∃f,([105,110,111,109]:List Nat)[i]?=some f∧Ct Tryz.prog f [.ref 1 0] (wS (s i)) (.tuple []) (wS (s (i+1)))):CtF Tryz.prog 55 [.ref 1 0,.t (.int .i8 5)] (wS (s 0)) (VS 4 s) (fun _=>.tuple []) wS:=by
 refine ctF Ab Tryz.func55 J J ?_
 repeat'(first|refine Ak Ab J J J J J ?_|refine Ap Ab J J J ?_|refine A0 ?_|refine AP (fun _ _ _ _=>?_)|refine Aw Ab J J ?_|(refine A1 J J J J J (ht:=fun h=>?_) (hf:=fun h=>?_)<;>try exact prn)|(refine A2 J J J J J (ht:=fun h=>?_) (hf:=fun h=>?_)<;>try exact prn)|refine Ag J J J J J ?_|(refine Al J (ht:=fun h=>?_) (hf:=fun h=>?_)<;>try exact prn)|refine AG (fun _ _ _ _ _=>?_)|refine Aq ?_|refine Ar ?_|refine A3 ?_|refine Aj Ab J J J J J J J (Ac Z) J ?_|refine Ae Ab J J J J J J J Z (Ac Z) J ?_|refine Ah Ab J J J J J J J J J J J J J (by simp[Ad];omega) ?_|refine Af Ab J J J J J J J J J J J J J J (by simp[Ad];omega) ?_|refine BH Z ?_|refine BF Z ?_|refine BG Z J ?_|refine A8 Ab J J J J J (fun _=>rfl) (fun b hb=>?_)|refine As J J J J ?_|refine A4 ?_|(refine A5 J J J J J (ht:=fun h=>?_) (hf:=fun h=>?_)<;>try exact prn)|(refine A6 J J J J J (ht:=fun h=>?_) (hf:=fun h=>?_)<;>try exact prn)|refine Ai J J J J J ?_|refine An J J J J J J J (Ac Z) J ?_|refine Ao J J J J J J J Z (Ac Z) J ?_|refine AR Ab [(1,1)] [(1,1),(102,16)] J J J J J (Vv (s 0)) J J J J J ?_)
 refine Tr.perm (σ':=[(1,.cells (Ci (s 0))),(16,.cells [clR 105,clR 110,clR 111,clR 109])]) DJ ?_
 refine BC (ι:=Nat) (fun i=>i≤4∧ ∀j,j<i→(s j).err=none) (fun i=>[(0,.ref 1 0),(8,.row 16 1 0 4),(9,.t (.int .i64 4)),(10,.t (.int .i64 i))]) (fun i=>[(1,.cells (Ci (s i))),(16,.cells [clR 105,clR 110,clR 111,clR 109])]) (fun i=>4-i) 0 ⟨by omega,fun j hj=>by omega⟩ ?_ ?_
 ·exact Ce [] (Av J J (Av J J (Av J J (Av J J AJ)))) J
 rintro i ⟨hi,hpre⟩
 by_cases hlt:i<4
 ·cases he:(s i).err with
  |none=>
   have hj: ∀j,j<i+1→(s j).err=none:=fun j hj=>by
    by_cases e:j=i
    ·subst e;exact he
    ·exact hpre j O
   obtain⟨f,hf,hc⟩:=hs i hlt (fun j hjl=>hj j O)
   have hg:[clR 105,clR 110,clR 111,clR 109][0+i]?=some (clR f):=by
    rw[Nat.zero_add]
    show(List.map clR [105,110,111,109])[i]?=_
    rw[List.getElem?_map,hf];rfl
   generalize hx:s i=x at hc he
   obtain⟨xq,xb,xe⟩:=x
   dsimp only at he
   subst he
   repeat'(first|refine Ak Ab J J J J J ?_|refine Ap Ab J J J ?_|refine A0 ?_|refine AP (fun _ _ _ _=>?_)|refine Aw Ab J J ?_|(refine A1 J J J J J (ht:=fun h=>?_) (hf:=fun h=>?_)<;>try exact prn)|(refine A2 J J J J J (ht:=fun h=>?_) (hf:=fun h=>?_)<;>try exact prn)|refine Ag J J J J J ?_|(refine Al J (ht:=fun h=>?_) (hf:=fun h=>?_)<;>try exact prn)|refine AG (fun _ _ _ _ _=>?_)|refine Aq ?_|refine Ar ?_|refine A3 ?_|refine Aj Ab J J J J J J J (Ac Z) J ?_|refine Ae Ab J J J J J J J Z (Ac Z) J ?_|refine Ah Ab J J J J J J J J J J J J J (by simp[Ad];omega) ?_|refine Af Ab J J J J J J J J J J J J J J (by simp[Ad];omega) ?_|refine BH Z ?_|refine BF Z ?_|refine BG Z J ?_|refine A8 Ab J J J J J (fun _=>rfl) (fun b hb=>?_)|refine As J J J J ?_|refine A4 ?_|(refine A5 J J J J J (ht:=fun h=>?_) (hf:=fun h=>?_)<;>try exact prn)|(refine A6 J J J J J (ht:=fun h=>?_) (hf:=fun h=>?_)<;>try exact prn)|refine Ai J J J J J ?_|refine An J J J J J J J (Ac Z) J ?_|refine Ao J J J J J J J Z (Ac Z) J ?_|refine Ca Ab J J J J J J J J hlt J ?_|refine Cr Ab J J J J J hg J J ?_|refine AR Ab [(1,1)] [(1,1)] J J J J J hc J J J J J ?_)
   refine BB (i+1) ⟨by omega,hj⟩ O [] (Av J J (Av J J (Av J J (Av J ?_ AJ)))) J
   rw[AW O O];rfl
  |some p=>
   have hV:VS 4 s (s i):=⟨i,hi,J,.inr (by rw[he];simp),hpre⟩
   obtain⟨f,hf⟩: ∃f,([105,110,111,109]:List Nat)[i]?=some f:=⟨_,List.getElem?_eq_getElem hlt⟩
   have hg:[clR 105,clR 110,clR 111,clR 109][0+i]?=some (clR f):=by
    rw[Nat.zero_add]
    show(List.map clR [105,110,111,109])[i]?=_
    rw[List.getElem?_map,hf];rfl
   generalize hx:s i=x at hV he
   obtain⟨xq,xb,xe⟩:=x
   dsimp only at he
   subst he
   repeat'(first|refine Ak Ab J J J J J ?_|refine Ap Ab J J J ?_|refine A0 ?_|refine AP (fun _ _ _ _=>?_)|refine Aw Ab J J ?_|(refine A1 J J J J J (ht:=fun h=>?_) (hf:=fun h=>?_)<;>try exact prn)|(refine A2 J J J J J (ht:=fun h=>?_) (hf:=fun h=>?_)<;>try exact prn)|refine Ag J J J J J ?_|(refine Al J (ht:=fun h=>?_) (hf:=fun h=>?_)<;>try exact prn)|refine AG (fun _ _ _ _ _=>?_)|refine Aq ?_|refine Ar ?_|refine A3 ?_|refine Aj Ab J J J J J J J (Ac Z) J ?_|refine Ae Ab J J J J J J J Z (Ac Z) J ?_|refine Ah Ab J J J J J J J J J J J J J (by simp[Ad];omega) ?_|refine Af Ab J J J J J J J J J J J J J J (by simp[Ad];omega) ?_|refine BH Z ?_|refine BF Z ?_|refine BG Z J ?_|refine A8 Ab J J J J J (fun _=>rfl) (fun b hb=>?_)|refine As J J J J ?_|refine A4 ?_|(refine A5 J J J J J (ht:=fun h=>?_) (hf:=fun h=>?_)<;>try exact prn)|(refine A6 J J J J J (ht:=fun h=>?_) (hf:=fun h=>?_)<;>try exact prn)|refine Ai J J J J J ?_|refine An J J J J J J J (Ac Z) J ?_|refine Ao J J J J J J J Z (Ac Z) J ?_|refine Ca Ab J J J J J J J J hlt J ?_|refine Cr Ab J J J J J hg J J ?_)
   exact Cq _ hV [8] J J J (Sub.refl _)
 ·have e:i=4:=by omega
  subst e
  have hV:VS 4 s (s 4):=⟨4,hi,J,.inl J,hpre⟩
  repeat'(first|refine Ak Ab J J J J J ?_|refine Ap Ab J J J ?_|refine A0 ?_|refine AP (fun _ _ _ _=>?_)|refine Aw Ab J J ?_|(refine A1 J J J J J (ht:=fun h=>?_) (hf:=fun h=>?_)<;>try exact prn)|(refine A2 J J J J J (ht:=fun h=>?_) (hf:=fun h=>?_)<;>try exact prn)|refine Ag J J J J J ?_|(refine Al J (ht:=fun h=>?_) (hf:=fun h=>?_)<;>try exact prn)|refine AG (fun _ _ _ _ _=>?_)|refine Aq ?_|refine Ar ?_|refine A3 ?_|refine Aj Ab J J J J J J J (Ac Z) J ?_|refine Ae Ab J J J J J J J Z (Ac Z) J ?_|refine Ah Ab J J J J J J J J J J J J J (by simp[Ad];omega) ?_|refine Af Ab J J J J J J J J J J J J J J (by simp[Ad];omega) ?_|refine BH Z ?_|refine BF Z ?_|refine BG Z J ?_|refine A8 Ab J J J J J (fun _=>rfl) (fun b hb=>?_)|refine As J J J J ?_|refine A4 ?_|(refine A5 J J J J J (ht:=fun h=>?_) (hf:=fun h=>?_)<;>try exact prn)|(refine A6 J J J J J (ht:=fun h=>?_) (hf:=fun h=>?_)<;>try exact prn)|refine Ai J J J J J ?_|refine An J J J J J J J (Ac Z) J ?_|refine Ao J J J J J J J Z (Ac Z) J ?_)
  exact DO _ hV [8] J J J (Sub.refl _)
def D9 (q:Req):Nat→RS:=fun i=>match i with
  |0=>⟨q,[],none⟩
  |1=>AL ⟨q,[],none⟩
  |2=>AM (AL ⟨q,[],none⟩)
  |3=>C8 (AM (AL ⟨q,[],none⟩))
  |_=>C7 (C8 (AM (AL ⟨q,[],none⟩)))
theorem XV (q:Req) (hk:q.kind=5) (hq:q.b.recs.length≤1000000):CtF Tryz.prog 55 [.ref 1 0,.t (.int .i8 5)] (wS ⟨q,[],none⟩) (VR q) (fun _=>.tuple []) wS:=by
 have hw:=Vi (D9 q) (fun i hi h=>by
  match i,hi,h with
  |0,_,h=>exact⟨_,J,DZ (D9 q 0) (h 0 O) (Nat.le_trans (Nat.le_refl 0) O)⟩
  |1,_,h=>exact⟨_,J,EH (D9 q 1) (h 1 O) (Nat.le_trans (BV (D9 q 0) 0 (h 1 O) (Nat.le_refl 0)) O)⟩
  |2,_,h=>exact⟨_,J,Qq (D9 q 2) (h 2 O) (Nat.le_trans (CZ (D9 q 1) 6 (h 2 O) (BV (D9 q 0) 0 (h 1 O) (Nat.le_refl 0))) O)⟩
  |3,_,h=>exact⟨_,J,MI (D9 q 3) (h 3 O) (Nat.le_trans (Km (D9 q 2) 12 (h 3 O) (CZ (D9 q 1) 6 (h 2 O) (BV (D9 q 0) 0 (h 1 O) (Nat.le_refl 0)))) O)⟩
  |_+4,hi,_=>exact absurd hi O)
 refine CtF.imp hw fun x hx=>?_
 obtain⟨i,hi,rfl,hend,hpre⟩:=hx
 by_cases h0:0≤q.part∧q.part≤2
 ·skip
  by_cases h1:0≤q.offset∧q.offset≤1048576
  ·skip
   by_cases h2:1≤q.most∧q.most≤64
   ·have hn: ∀j,j≤4→(D9 q j).err=none:=fun j hj=>by
     match j,hj with
     |0,_=>simp[D9,AL,AM,C8,C7,h0,h1,h2]
     |1,_=>simp[D9,AL,AM,C8,C7,h0,h1,h2]
     |2,_=>simp[D9,AL,AM,C8,C7,h0,h1,h2]
     |3,_=>simp[D9,AL,AM,C8,C7,h0,h1,h2]
     |4,_=>simp[D9,AL,AM,C8,C7,h0,h1,h2]
     |_+5,hj=>exact absurd hj O
    have e:i=4:=hend.elim id (fun h=>absurd (hn i hi) h)
    subst e
    exact⟨⟨fun _=>by simp[Bi,hk,h0,h1,h2],fun _=>hn 4 (Nat.le_refl _)⟩,fun _=>⟨by simp[D9,Co,hk,AL,AM,C8,C7,h0,h1,h2],Nat.le_trans (Lb (D9 q 3) 18 (hn 4 O) (Km (D9 q 2) 12 (hn 3 O) (CZ (D9 q 1) 6 (hn 2 O) (BV (D9 q 0) 0 (hn 1 O) (Nat.le_refl 0))))) O⟩⟩
   ·have hbad:(D9 q 3).err≠none:=by simp[D9,AL,AM,C8,C7,h0,h1,h2]
    have hne:(D9 q i).err≠none:=fun e=>by
     rcases hend with rfl|h
     ·exact hbad (hpre 3 O)
     ·exact h e
    have hr:Bi q=false:=by simp only[Bi,hk];simp;grind
    exact⟨⟨fun e=>absurd e hne,fun e=>by rw[hr]at e;cases e⟩,fun e=>absurd e hne⟩
  ·have hbad:(D9 q 2).err≠none:=by simp[D9,AL,AM,C8,C7,h0,h1]
   have hne:(D9 q i).err≠none:=fun e=>by
    rcases hend with rfl|h
    ·exact hbad (hpre 2 O)
    ·exact h e
   have hr:Bi q=false:=by simp only[Bi,hk];simp;grind
   exact⟨⟨fun e=>absurd e hne,fun e=>by rw[hr]at e;cases e⟩,fun e=>absurd e hne⟩
 ·have hbad:(D9 q 1).err≠none:=by simp[D9,AL,AM,C8,C7,h0]
  have hne:(D9 q i).err≠none:=fun e=>by
   rcases hend with rfl|h
   ·exact hbad (hpre 1 O)
   ·exact h e
  have hr:Bi q=false:=by simp only[Bi,hk];simp;grind
  exact⟨⟨fun e=>absurd e hne,fun e=>by rw[hr]at e;cases e⟩,fun e=>absurd e hne⟩
theorem Vh (s:Nat→RS) (hs: ∀i,i<3→(∀j,j≤i→(s j).err=none)→ ∃f,([112,105,110]:List Nat)[i]?=some f∧Ct Tryz.prog f [.ref 1 0] (wS (s i)) (.tuple []) (wS (s (i+1)))):CtF Tryz.prog 55 [.ref 1 0,.t (.int .i8 6)] (wS (s 0)) (VS 3 s) (fun _=>.tuple []) wS:=by
 refine ctF Ab Tryz.func55 J J ?_
 repeat'(first|refine Ak Ab J J J J J ?_|refine Ap Ab J J J ?_|refine A0 ?_|refine AP (fun _ _ _ _=>?_)|refine Aw Ab J J ?_|(refine A1 J J J J J (ht:=fun h=>?_) (hf:=fun h=>?_)<;>try exact prn)|(refine A2 J J J J J (ht:=fun h=>?_) (hf:=fun h=>?_)<;>try exact prn)|refine Ag J J J J J ?_|(refine Al J (ht:=fun h=>?_) (hf:=fun h=>?_)<;>try exact prn)|refine AG (fun _ _ _ _ _=>?_)|refine Aq ?_|refine Ar ?_|refine A3 ?_|refine Aj Ab J J J J J J J (Ac Z) J ?_|refine Ae Ab J J J J J J J Z (Ac Z) J ?_|refine Ah Ab J J J J J J J J J J J J J (by simp[Ad];omega) ?_|refine Af Ab J J J J J J J J J J J J J J (by simp[Ad];omega) ?_|refine BH Z ?_|refine BF Z ?_|refine BG Z J ?_|refine A8 Ab J J J J J (fun _=>rfl) (fun b hb=>?_)|refine As J J J J ?_|refine A4 ?_|(refine A5 J J J J J (ht:=fun h=>?_) (hf:=fun h=>?_)<;>try exact prn)|(refine A6 J J J J J (ht:=fun h=>?_) (hf:=fun h=>?_)<;>try exact prn)|refine Ai J J J J J ?_|refine An J J J J J J J (Ac Z) J ?_|refine Ao J J J J J J J Z (Ac Z) J ?_|refine EF Ab [(1,1)] [(1,1),(136,16)] J J J J J (Vu (s 0)) J (fun _ _=>rfl) (fun _ _=>rfl) (fun _ _=>rfl) (fun j _=>?_))
 refine Tr.perm (σ':=[(1,.cells (Ci (s 0))),(16,.cells ([clR 112,clR 105,clR 110]++List.replicate j AV.top))]) (fun b=>(DJ b).trans (congrArg (fun s=>Am.look s b) (show[(16,Blk.cells ([clR 112,clR 105,clR 110]++List.replicate j AV.top)),(1,Blk.cells (Ci (s 0)))]=[(16,Blk.cells (DN (Am.look [(1,1),(136,16)]) ([clR 112,clR 105,clR 110]++List.replicate j AV.top))),(1,Blk.cells (Ci (s 0)))]by rw[Fd];rfl))) ?_
 refine BC (ι:=Nat) (fun i=>i≤3∧ ∀j,j<i→(s j).err=none) (fun i=>[(0,.ref 1 0),(8,.row 16 1 0 3),(9,.t (.int .i64 3)),(10,.t (.int .i64 i))]) (fun i=>[(1,.cells (Ci (s i))),(16,.cells ([clR 112,clR 105,clR 110]++List.replicate j AV.top))]) (fun i=>3-i) 0 ⟨by omega,fun j hj=>by omega⟩ ?_ ?_
 ·exact Ce [] (Av J J (Av J J (Av J J (Av J J AJ)))) J
 rintro i ⟨hi,hpre⟩
 by_cases hlt:i<3
 ·cases he:(s i).err with
  |none=>
   have hj: ∀j,j<i+1→(s j).err=none:=fun j hj=>by
    by_cases e:j=i
    ·subst e;exact he
    ·exact hpre j O
   obtain⟨f,hf,hc⟩:=hs i hlt (fun j hjl=>hj j O)
   have hg:([clR 112,clR 105,clR 110]++List.replicate j AV.top)[0+i]?=some (clR f):=by
    rw[Nat.zero_add]
    refine HE ?_ _
    show(List.map clR [112,105,110])[i]?=_
    rw[List.getElem?_map,hf];rfl
   generalize hx:s i=x at hc he
   obtain⟨xq,xb,xe⟩:=x
   dsimp only at he
   subst he
   repeat'(first|refine Ak Ab J J J J J ?_|refine Ap Ab J J J ?_|refine A0 ?_|refine AP (fun _ _ _ _=>?_)|refine Aw Ab J J ?_|(refine A1 J J J J J (ht:=fun h=>?_) (hf:=fun h=>?_)<;>try exact prn)|(refine A2 J J J J J (ht:=fun h=>?_) (hf:=fun h=>?_)<;>try exact prn)|refine Ag J J J J J ?_|(refine Al J (ht:=fun h=>?_) (hf:=fun h=>?_)<;>try exact prn)|refine AG (fun _ _ _ _ _=>?_)|refine Aq ?_|refine Ar ?_|refine A3 ?_|refine Aj Ab J J J J J J J (Ac Z) J ?_|refine Ae Ab J J J J J J J Z (Ac Z) J ?_|refine Ah Ab J J J J J J J J J J J J J (by simp[Ad];omega) ?_|refine Af Ab J J J J J J J J J J J J J J (by simp[Ad];omega) ?_|refine BH Z ?_|refine BF Z ?_|refine BG Z J ?_|refine A8 Ab J J J J J (fun _=>rfl) (fun b hb=>?_)|refine As J J J J ?_|refine A4 ?_|(refine A5 J J J J J (ht:=fun h=>?_) (hf:=fun h=>?_)<;>try exact prn)|(refine A6 J J J J J (ht:=fun h=>?_) (hf:=fun h=>?_)<;>try exact prn)|refine Ai J J J J J ?_|refine An J J J J J J J (Ac Z) J ?_|refine Ao J J J J J J J Z (Ac Z) J ?_|refine Ca Ab J J J J J J J J hlt J ?_|refine Cr Ab J J J J J hg J J ?_|refine AR Ab [(1,1)] [(1,1)] J J J J J hc J J J J J ?_)
   refine BB (i+1) ⟨by omega,hj⟩ O [] (Av J J (Av J J (Av J J (Av J ?_ AJ)))) ((congrArg (fun l=>[(1,Blk.cells (Ci (s (i+1)))),(16,Blk.cells l)]) (Fd (Dw [(1,1)] [(1,.cells (Ci ⟨xq,xb,none⟩)),(16,.cells ([clR 112,clR 105,clR 110]++List.replicate j AV.top))]) j [clR 112,clR 105,clR 110])).trans J)
   rw[AW O O];rfl
  |some p=>
   have hV:VS 3 s (s i):=⟨i,hi,J,.inr (by rw[he];simp),hpre⟩
   obtain⟨f,hf⟩: ∃f,([112,105,110]:List Nat)[i]?=some f:=⟨_,List.getElem?_eq_getElem hlt⟩
   have hg:([clR 112,clR 105,clR 110]++List.replicate j AV.top)[0+i]?=some (clR f):=by
    rw[Nat.zero_add]
    refine HE ?_ _
    show(List.map clR [112,105,110])[i]?=_
    rw[List.getElem?_map,hf];rfl
   generalize hx:s i=x at hV he
   obtain⟨xq,xb,xe⟩:=x
   dsimp only at he
   subst he
   repeat'(first|refine Ak Ab J J J J J ?_|refine Ap Ab J J J ?_|refine A0 ?_|refine AP (fun _ _ _ _=>?_)|refine Aw Ab J J ?_|(refine A1 J J J J J (ht:=fun h=>?_) (hf:=fun h=>?_)<;>try exact prn)|(refine A2 J J J J J (ht:=fun h=>?_) (hf:=fun h=>?_)<;>try exact prn)|refine Ag J J J J J ?_|(refine Al J (ht:=fun h=>?_) (hf:=fun h=>?_)<;>try exact prn)|refine AG (fun _ _ _ _ _=>?_)|refine Aq ?_|refine Ar ?_|refine A3 ?_|refine Aj Ab J J J J J J J (Ac Z) J ?_|refine Ae Ab J J J J J J J Z (Ac Z) J ?_|refine Ah Ab J J J J J J J J J J J J J (by simp[Ad];omega) ?_|refine Af Ab J J J J J J J J J J J J J J (by simp[Ad];omega) ?_|refine BH Z ?_|refine BF Z ?_|refine BG Z J ?_|refine A8 Ab J J J J J (fun _=>rfl) (fun b hb=>?_)|refine As J J J J ?_|refine A4 ?_|(refine A5 J J J J J (ht:=fun h=>?_) (hf:=fun h=>?_)<;>try exact prn)|(refine A6 J J J J J (ht:=fun h=>?_) (hf:=fun h=>?_)<;>try exact prn)|refine Ai J J J J J ?_|refine An J J J J J J J (Ac Z) J ?_|refine Ao J J J J J J J Z (Ac Z) J ?_|refine Ca Ab J J J J J J J J hlt J ?_|refine Cr Ab J J J J J hg J J ?_)
   exact Cq _ hV [8] J J J (Sub.refl _)
 ·have e:i=3:=by omega
  subst e
  have hV:VS 3 s (s 3):=⟨3,hi,J,.inl J,hpre⟩
  repeat'(first|refine Ak Ab J J J J J ?_|refine Ap Ab J J J ?_|refine A0 ?_|refine AP (fun _ _ _ _=>?_)|refine Aw Ab J J ?_|(refine A1 J J J J J (ht:=fun h=>?_) (hf:=fun h=>?_)<;>try exact prn)|(refine A2 J J J J J (ht:=fun h=>?_) (hf:=fun h=>?_)<;>try exact prn)|refine Ag J J J J J ?_|(refine Al J (ht:=fun h=>?_) (hf:=fun h=>?_)<;>try exact prn)|refine AG (fun _ _ _ _ _=>?_)|refine Aq ?_|refine Ar ?_|refine A3 ?_|refine Aj Ab J J J J J J J (Ac Z) J ?_|refine Ae Ab J J J J J J J Z (Ac Z) J ?_|refine Ah Ab J J J J J J J J J J J J J (by simp[Ad];omega) ?_|refine Af Ab J J J J J J J J J J J J J J (by simp[Ad];omega) ?_|refine BH Z ?_|refine BF Z ?_|refine BG Z J ?_|refine A8 Ab J J J J J (fun _=>rfl) (fun b hb=>?_)|refine As J J J J ?_|refine A4 ?_|(refine A5 J J J J J (ht:=fun h=>?_) (hf:=fun h=>?_)<;>try exact prn)|(refine A6 J J J J J (ht:=fun h=>?_) (hf:=fun h=>?_)<;>try exact prn)|refine Ai J J J J J ?_|refine An J J J J J J J (Ac Z) J ?_|refine Ao J J J J J J J Z (Ac Z) J ?_)
  exact DO _ hV [8] J J J (Sub.refl _)
def E6 (q:Req):Nat→RS:=fun i=>match i with
  |0=>⟨q,[],none⟩
  |1=>AX ⟨q,[],none⟩
  |2=>AL (AX ⟨q,[],none⟩)
  |_=>AM (AL (AX ⟨q,[],none⟩))
theorem XU (q:Req) (hk:q.kind=6) (hq:q.b.recs.length≤1000000):CtF Tryz.prog 55 [.ref 1 0,.t (.int .i8 6)] (wS ⟨q,[],none⟩) (VR q) (fun _=>.tuple []) wS:=by
 have hw:=Vh (E6 q) (fun i hi h=>by
  match i,hi,h with
  |0,_,h=>exact⟨_,J,GK (E6 q 0) (h 0 O) (Nat.le_trans (Nat.le_refl 0) O)⟩
  |1,_,h=>exact⟨_,J,DZ (E6 q 1) (h 1 O) (Nat.le_trans (C9 (E6 q 0) 0 (h 1 O) (Nat.le_refl 0)) O)⟩
  |2,_,h=>exact⟨_,J,EH (E6 q 2) (h 2 O) (Nat.le_trans (BV (E6 q 1) 6 (h 2 O) (C9 (E6 q 0) 0 (h 1 O) (Nat.le_refl 0))) O)⟩
  |_+3,hi,_=>exact absurd hi O)
 refine CtF.imp hw fun x hx=>?_
 obtain⟨i,hi,rfl,hend,hpre⟩:=hx
 by_cases h0:0≤q.group∧q.group≤1
 ·skip
  by_cases h1:0≤q.part∧q.part≤2
  ·skip
   by_cases h2:0≤q.offset∧q.offset≤1048576
   ·have hn: ∀j,j≤3→(E6 q j).err=none:=fun j hj=>by
     match j,hj with
     |0,_=>simp[E6,AX,AL,AM,h0,h1,h2]
     |1,_=>simp[E6,AX,AL,AM,h0,h1,h2]
     |2,_=>simp[E6,AX,AL,AM,h0,h1,h2]
     |3,_=>simp[E6,AX,AL,AM,h0,h1,h2]
     |_+4,hj=>exact absurd hj O
    have e:i=3:=hend.elim id (fun h=>absurd (hn i hi) h)
    subst e
    exact⟨⟨fun _=>by simp[Bi,hk,h0,h1,h2],fun _=>hn 3 (Nat.le_refl _)⟩,fun _=>⟨by simp[E6,Co,hk,AX,AL,AM,h0,h1,h2],Nat.le_trans (CZ (E6 q 2) 12 (hn 3 O) (BV (E6 q 1) 6 (hn 2 O) (C9 (E6 q 0) 0 (hn 1 O) (Nat.le_refl 0)))) O⟩⟩
   ·have hbad:(E6 q 3).err≠none:=by simp[E6,AX,AL,AM,h0,h1,h2]
    have hne:(E6 q i).err≠none:=fun e=>by
     rcases hend with rfl|h
     ·exact hbad e
     ·exact h e
    have hr:Bi q=false:=by simp only[Bi,hk];simp;grind
    exact⟨⟨fun e=>absurd e hne,fun e=>by rw[hr]at e;cases e⟩,fun e=>absurd e hne⟩
  ·have hbad:(E6 q 2).err≠none:=by simp[E6,AX,AL,AM,h0,h1]
   have hne:(E6 q i).err≠none:=fun e=>by
    rcases hend with rfl|h
    ·exact hbad (hpre 2 O)
    ·exact h e
   have hr:Bi q=false:=by simp only[Bi,hk];simp;grind
   exact⟨⟨fun e=>absurd e hne,fun e=>by rw[hr]at e;cases e⟩,fun e=>absurd e hne⟩
 ·have hbad:(E6 q 1).err≠none:=by simp[E6,AX,AL,AM,h0]
  have hne:(E6 q i).err≠none:=fun e=>by
   rcases hend with rfl|h
   ·exact hbad (hpre 1 O)
   ·exact h e
  have hr:Bi q=false:=by simp only[Bi,hk];simp;grind
  exact⟨⟨fun e=>absurd e hne,fun e=>by rw[hr]at e;cases e⟩,fun e=>absurd e hne⟩
theorem Vg (s:Nat→RS) (hs: ∀i,i<2→(∀j,j≤i→(s j).err=none)→ ∃f,([112,105]:List Nat)[i]?=some f∧Ct Tryz.prog f [.ref 1 0] (wS (s i)) (.tuple []) (wS (s (i+1)))):CtF Tryz.prog 55 [.ref 1 0,.t (.int .i8 7)] (wS (s 0)) (VS 2 s) (fun _=>.tuple []) wS:=by
 refine ctF Ab Tryz.func55 J J ?_
 repeat'(first|refine Ak Ab J J J J J ?_|refine Ap Ab J J J ?_|refine A0 ?_|refine AP (fun _ _ _ _=>?_)|refine Aw Ab J J ?_|(refine A1 J J J J J (ht:=fun h=>?_) (hf:=fun h=>?_)<;>try exact prn)|(refine A2 J J J J J (ht:=fun h=>?_) (hf:=fun h=>?_)<;>try exact prn)|refine Ag J J J J J ?_|(refine Al J (ht:=fun h=>?_) (hf:=fun h=>?_)<;>try exact prn)|refine AG (fun _ _ _ _ _=>?_)|refine Aq ?_|refine Ar ?_|refine A3 ?_|refine Aj Ab J J J J J J J (Ac Z) J ?_|refine Ae Ab J J J J J J J Z (Ac Z) J ?_|refine Ah Ab J J J J J J J J J J J J J (by simp[Ad];omega) ?_|refine Af Ab J J J J J J J J J J J J J J (by simp[Ad];omega) ?_|refine BH Z ?_|refine BF Z ?_|refine BG Z J ?_|refine A8 Ab J J J J J (fun _=>rfl) (fun b hb=>?_)|refine As J J J J ?_|refine A4 ?_|(refine A5 J J J J J (ht:=fun h=>?_) (hf:=fun h=>?_)<;>try exact prn)|(refine A6 J J J J J (ht:=fun h=>?_) (hf:=fun h=>?_)<;>try exact prn)|refine Ai J J J J J ?_|refine An J J J J J J J (Ac Z) J ?_|refine Ao J J J J J J J Z (Ac Z) J ?_|refine AR Ab [(1,1)] [(1,1),(112,16)] J J J J J (Vt (s 0)) J J J J J ?_)
 refine Tr.perm (σ':=[(1,.cells (Ci (s 0))),(16,.cells [clR 112,clR 105])]) DJ ?_
 refine BC (ι:=Nat) (fun i=>i≤2∧ ∀j,j<i→(s j).err=none) (fun i=>[(0,.ref 1 0),(8,.row 16 1 0 2),(9,.t (.int .i64 2)),(10,.t (.int .i64 i))]) (fun i=>[(1,.cells (Ci (s i))),(16,.cells [clR 112,clR 105])]) (fun i=>2-i) 0 ⟨by omega,fun j hj=>by omega⟩ ?_ ?_
 ·exact Ce [] (Av J J (Av J J (Av J J (Av J J AJ)))) J
 rintro i ⟨hi,hpre⟩
 by_cases hlt:i<2
 ·cases he:(s i).err with
  |none=>
   have hj: ∀j,j<i+1→(s j).err=none:=fun j hj=>by
    by_cases e:j=i
    ·subst e;exact he
    ·exact hpre j O
   obtain⟨f,hf,hc⟩:=hs i hlt (fun j hjl=>hj j O)
   have hg:[clR 112,clR 105][0+i]?=some (clR f):=by
    rw[Nat.zero_add]
    show(List.map clR [112,105])[i]?=_
    rw[List.getElem?_map,hf];rfl
   generalize hx:s i=x at hc he
   obtain⟨xq,xb,xe⟩:=x
   dsimp only at he
   subst he
   repeat'(first|refine Ak Ab J J J J J ?_|refine Ap Ab J J J ?_|refine A0 ?_|refine AP (fun _ _ _ _=>?_)|refine Aw Ab J J ?_|(refine A1 J J J J J (ht:=fun h=>?_) (hf:=fun h=>?_)<;>try exact prn)|(refine A2 J J J J J (ht:=fun h=>?_) (hf:=fun h=>?_)<;>try exact prn)|refine Ag J J J J J ?_|(refine Al J (ht:=fun h=>?_) (hf:=fun h=>?_)<;>try exact prn)|refine AG (fun _ _ _ _ _=>?_)|refine Aq ?_|refine Ar ?_|refine A3 ?_|refine Aj Ab J J J J J J J (Ac Z) J ?_|refine Ae Ab J J J J J J J Z (Ac Z) J ?_|refine Ah Ab J J J J J J J J J J J J J (by simp[Ad];omega) ?_|refine Af Ab J J J J J J J J J J J J J J (by simp[Ad];omega) ?_|refine BH Z ?_|refine BF Z ?_|refine BG Z J ?_|refine A8 Ab J J J J J (fun _=>rfl) (fun b hb=>?_)|refine As J J J J ?_|refine A4 ?_|(refine A5 J J J J J (ht:=fun h=>?_) (hf:=fun h=>?_)<;>try exact prn)|(refine A6 J J J J J (ht:=fun h=>?_) (hf:=fun h=>?_)<;>try exact prn)|refine Ai J J J J J ?_|refine An J J J J J J J (Ac Z) J ?_|refine Ao J J J J J J J Z (Ac Z) J ?_|refine Ca Ab J J J J J J J J hlt J ?_|refine Cr Ab J J J J J hg J J ?_|refine AR Ab [(1,1)] [(1,1)] J J J J J hc J J J J J ?_)
   refine BB (i+1) ⟨by omega,hj⟩ O [] (Av J J (Av J J (Av J J (Av J ?_ AJ)))) J
   rw[AW O O];rfl
  |some p=>
   have hV:VS 2 s (s i):=⟨i,hi,J,.inr (by rw[he];simp),hpre⟩
   obtain⟨f,hf⟩: ∃f,([112,105]:List Nat)[i]?=some f:=⟨_,List.getElem?_eq_getElem hlt⟩
   have hg:[clR 112,clR 105][0+i]?=some (clR f):=by
    rw[Nat.zero_add]
    show(List.map clR [112,105])[i]?=_
    rw[List.getElem?_map,hf];rfl
   generalize hx:s i=x at hV he
   obtain⟨xq,xb,xe⟩:=x
   dsimp only at he
   subst he
   repeat'(first|refine Ak Ab J J J J J ?_|refine Ap Ab J J J ?_|refine A0 ?_|refine AP (fun _ _ _ _=>?_)|refine Aw Ab J J ?_|(refine A1 J J J J J (ht:=fun h=>?_) (hf:=fun h=>?_)<;>try exact prn)|(refine A2 J J J J J (ht:=fun h=>?_) (hf:=fun h=>?_)<;>try exact prn)|refine Ag J J J J J ?_|(refine Al J (ht:=fun h=>?_) (hf:=fun h=>?_)<;>try exact prn)|refine AG (fun _ _ _ _ _=>?_)|refine Aq ?_|refine Ar ?_|refine A3 ?_|refine Aj Ab J J J J J J J (Ac Z) J ?_|refine Ae Ab J J J J J J J Z (Ac Z) J ?_|refine Ah Ab J J J J J J J J J J J J J (by simp[Ad];omega) ?_|refine Af Ab J J J J J J J J J J J J J J (by simp[Ad];omega) ?_|refine BH Z ?_|refine BF Z ?_|refine BG Z J ?_|refine A8 Ab J J J J J (fun _=>rfl) (fun b hb=>?_)|refine As J J J J ?_|refine A4 ?_|(refine A5 J J J J J (ht:=fun h=>?_) (hf:=fun h=>?_)<;>try exact prn)|(refine A6 J J J J J (ht:=fun h=>?_) (hf:=fun h=>?_)<;>try exact prn)|refine Ai J J J J J ?_|refine An J J J J J J J (Ac Z) J ?_|refine Ao J J J J J J J Z (Ac Z) J ?_|refine Ca Ab J J J J J J J J hlt J ?_|refine Cr Ab J J J J J hg J J ?_)
   exact Cq _ hV [8] J J J (Sub.refl _)
 ·have e:i=2:=by omega
  subst e
  have hV:VS 2 s (s 2):=⟨2,hi,J,.inl J,hpre⟩
  repeat'(first|refine Ak Ab J J J J J ?_|refine Ap Ab J J J ?_|refine A0 ?_|refine AP (fun _ _ _ _=>?_)|refine Aw Ab J J ?_|(refine A1 J J J J J (ht:=fun h=>?_) (hf:=fun h=>?_)<;>try exact prn)|(refine A2 J J J J J (ht:=fun h=>?_) (hf:=fun h=>?_)<;>try exact prn)|refine Ag J J J J J ?_|(refine Al J (ht:=fun h=>?_) (hf:=fun h=>?_)<;>try exact prn)|refine AG (fun _ _ _ _ _=>?_)|refine Aq ?_|refine Ar ?_|refine A3 ?_|refine Aj Ab J J J J J J J (Ac Z) J ?_|refine Ae Ab J J J J J J J Z (Ac Z) J ?_|refine Ah Ab J J J J J J J J J J J J J (by simp[Ad];omega) ?_|refine Af Ab J J J J J J J J J J J J J J (by simp[Ad];omega) ?_|refine BH Z ?_|refine BF Z ?_|refine BG Z J ?_|refine A8 Ab J J J J J (fun _=>rfl) (fun b hb=>?_)|refine As J J J J ?_|refine A4 ?_|(refine A5 J J J J J (ht:=fun h=>?_) (hf:=fun h=>?_)<;>try exact prn)|(refine A6 J J J J J (ht:=fun h=>?_) (hf:=fun h=>?_)<;>try exact prn)|refine Ai J J J J J ?_|refine An J J J J J J J (Ac Z) J ?_|refine Ao J J J J J J J Z (Ac Z) J ?_)
  exact DO _ hV [8] J J J (Sub.refl _)
def GM (q:Req):Nat→RS:=fun i=>match i with
  |0=>⟨q,[],none⟩
  |1=>AX ⟨q,[],none⟩
  |_=>AL (AX ⟨q,[],none⟩)
theorem XT (q:Req) (hk:q.kind=7) (hq:q.b.recs.length≤1000000):CtF Tryz.prog 55 [.ref 1 0,.t (.int .i8 7)] (wS ⟨q,[],none⟩) (VR q) (fun _=>.tuple []) wS:=by
 have hw:=Vg (GM q) (fun i hi h=>by
  match i,hi,h with
  |0,_,h=>exact⟨_,J,GK (GM q 0) (h 0 O) (Nat.le_trans (Nat.le_refl 0) O)⟩
  |1,_,h=>exact⟨_,J,DZ (GM q 1) (h 1 O) (Nat.le_trans (C9 (GM q 0) 0 (h 1 O) (Nat.le_refl 0)) O)⟩
  |_+2,hi,_=>exact absurd hi O)
 refine CtF.imp hw fun x hx=>?_
 obtain⟨i,hi,rfl,hend,hpre⟩:=hx
 by_cases h0:0≤q.group∧q.group≤1
 ·skip
  by_cases h1:0≤q.part∧q.part≤2
  ·have hn: ∀j,j≤2→(GM q j).err=none:=fun j hj=>by
    match j,hj with
    |0,_=>simp[GM,AX,AL,h0,h1]
    |1,_=>simp[GM,AX,AL,h0,h1]
    |2,_=>simp[GM,AX,AL,h0,h1]
    |_+3,hj=>exact absurd hj O
   have e:i=2:=hend.elim id (fun h=>absurd (hn i hi) h)
   subst e
   exact⟨⟨fun _=>by simp[Bi,hk,h0,h1],fun _=>hn 2 (Nat.le_refl _)⟩,fun _=>⟨by simp[GM,Co,hk,AX,AL,h0,h1],Nat.le_trans (BV (GM q 1) 6 (hn 2 O) (C9 (GM q 0) 0 (hn 1 O) (Nat.le_refl 0))) O⟩⟩
  ·have hbad:(GM q 2).err≠none:=by simp[GM,AX,AL,h0,h1]
   have hne:(GM q i).err≠none:=fun e=>by
    rcases hend with rfl|h
    ·exact hbad e
    ·exact h e
   have hr:Bi q=false:=by simp only[Bi,hk];simp;grind
   exact⟨⟨fun e=>absurd e hne,fun e=>by rw[hr]at e;cases e⟩,fun e=>absurd e hne⟩
 ·have hbad:(GM q 1).err≠none:=by simp[GM,AX,AL,h0]
  have hne:(GM q i).err≠none:=fun e=>by
   rcases hend with rfl|h
   ·exact hbad (hpre 1 O)
   ·exact h e
  have hr:Bi q=false:=by simp only[Bi,hk];simp;grind
  exact⟨⟨fun e=>absurd e hne,fun e=>by rw[hr]at e;cases e⟩,fun e=>absurd e hne⟩
theorem Vf (s:Nat→RS) (hs: ∀i,i<2→(∀j,j≤i→(s j).err=none)→ ∃f,([105,110]:List Nat)[i]?=some f∧Ct Tryz.prog f [.ref 1 0] (wS (s i)) (.tuple []) (wS (s (i+1)))):CtF Tryz.prog 55 [.ref 1 0,.t (.int .i8 8)] (wS (s 0)) (VS 2 s) (fun _=>.tuple []) wS:=by
 refine ctF Ab Tryz.func55 J J ?_
 repeat'(first|refine Ak Ab J J J J J ?_|refine Ap Ab J J J ?_|refine A0 ?_|refine AP (fun _ _ _ _=>?_)|refine Aw Ab J J ?_|(refine A1 J J J J J (ht:=fun h=>?_) (hf:=fun h=>?_)<;>try exact prn)|(refine A2 J J J J J (ht:=fun h=>?_) (hf:=fun h=>?_)<;>try exact prn)|refine Ag J J J J J ?_|(refine Al J (ht:=fun h=>?_) (hf:=fun h=>?_)<;>try exact prn)|refine AG (fun _ _ _ _ _=>?_)|refine Aq ?_|refine Ar ?_|refine A3 ?_|refine Aj Ab J J J J J J J (Ac Z) J ?_|refine Ae Ab J J J J J J J Z (Ac Z) J ?_|refine Ah Ab J J J J J J J J J J J J J (by simp[Ad];omega) ?_|refine Af Ab J J J J J J J J J J J J J J (by simp[Ad];omega) ?_|refine BH Z ?_|refine BF Z ?_|refine BG Z J ?_|refine A8 Ab J J J J J (fun _=>rfl) (fun b hb=>?_)|refine As J J J J ?_|refine A4 ?_|(refine A5 J J J J J (ht:=fun h=>?_) (hf:=fun h=>?_)<;>try exact prn)|(refine A6 J J J J J (ht:=fun h=>?_) (hf:=fun h=>?_)<;>try exact prn)|refine Ai J J J J J ?_|refine An J J J J J J J (Ac Z) J ?_|refine Ao J J J J J J J Z (Ac Z) J ?_|refine EF Ab [(1,1)] [(1,1),(150,16)] J J J J J (Vs (s 0)) J (fun _ _=>rfl) (fun _ _=>rfl) (fun _ _=>rfl) (fun j _=>?_))
 refine Tr.perm (σ':=[(1,.cells (Ci (s 0))),(16,.cells ([clR 105,clR 110]++List.replicate j AV.top))]) (fun b=>(DJ b).trans (congrArg (fun s=>Am.look s b) (show[(16,Blk.cells ([clR 105,clR 110]++List.replicate j AV.top)),(1,Blk.cells (Ci (s 0)))]=[(16,Blk.cells (DN (Am.look [(1,1),(150,16)]) ([clR 105,clR 110]++List.replicate j AV.top))),(1,Blk.cells (Ci (s 0)))]by rw[Fd];rfl))) ?_
 refine BC (ι:=Nat) (fun i=>i≤2∧ ∀j,j<i→(s j).err=none) (fun i=>[(0,.ref 1 0),(8,.row 16 1 0 2),(9,.t (.int .i64 2)),(10,.t (.int .i64 i))]) (fun i=>[(1,.cells (Ci (s i))),(16,.cells ([clR 105,clR 110]++List.replicate j AV.top))]) (fun i=>2-i) 0 ⟨by omega,fun j hj=>by omega⟩ ?_ ?_
 ·exact Ce [] (Av J J (Av J J (Av J J (Av J J AJ)))) J
 rintro i ⟨hi,hpre⟩
 by_cases hlt:i<2
 ·cases he:(s i).err with
  |none=>
   have hj: ∀j,j<i+1→(s j).err=none:=fun j hj=>by
    by_cases e:j=i
    ·subst e;exact he
    ·exact hpre j O
   obtain⟨f,hf,hc⟩:=hs i hlt (fun j hjl=>hj j O)
   have hg:([clR 105,clR 110]++List.replicate j AV.top)[0+i]?=some (clR f):=by
    rw[Nat.zero_add]
    refine HE ?_ _
    show(List.map clR [105,110])[i]?=_
    rw[List.getElem?_map,hf];rfl
   generalize hx:s i=x at hc he
   obtain⟨xq,xb,xe⟩:=x
   dsimp only at he
   subst he
   repeat'(first|refine Ak Ab J J J J J ?_|refine Ap Ab J J J ?_|refine A0 ?_|refine AP (fun _ _ _ _=>?_)|refine Aw Ab J J ?_|(refine A1 J J J J J (ht:=fun h=>?_) (hf:=fun h=>?_)<;>try exact prn)|(refine A2 J J J J J (ht:=fun h=>?_) (hf:=fun h=>?_)<;>try exact prn)|refine Ag J J J J J ?_|(refine Al J (ht:=fun h=>?_) (hf:=fun h=>?_)<;>try exact prn)|refine AG (fun _ _ _ _ _=>?_)|refine Aq ?_|refine Ar ?_|refine A3 ?_|refine Aj Ab J J J J J J J (Ac Z) J ?_|refine Ae Ab J J J J J J J Z (Ac Z) J ?_|refine Ah Ab J J J J J J J J J J J J J (by simp[Ad];omega) ?_|refine Af Ab J J J J J J J J J J J J J J (by simp[Ad];omega) ?_|refine BH Z ?_|refine BF Z ?_|refine BG Z J ?_|refine A8 Ab J J J J J (fun _=>rfl) (fun b hb=>?_)|refine As J J J J ?_|refine A4 ?_|(refine A5 J J J J J (ht:=fun h=>?_) (hf:=fun h=>?_)<;>try exact prn)|(refine A6 J J J J J (ht:=fun h=>?_) (hf:=fun h=>?_)<;>try exact prn)|refine Ai J J J J J ?_|refine An J J J J J J J (Ac Z) J ?_|refine Ao J J J J J J J Z (Ac Z) J ?_|refine Ca Ab J J J J J J J J hlt J ?_|refine Cr Ab J J J J J hg J J ?_|refine AR Ab [(1,1)] [(1,1)] J J J J J hc J J J J J ?_)
   refine BB (i+1) ⟨by omega,hj⟩ O [] (Av J J (Av J J (Av J J (Av J ?_ AJ)))) ((congrArg (fun l=>[(1,Blk.cells (Ci (s (i+1)))),(16,Blk.cells l)]) (Fd (Dw [(1,1)] [(1,.cells (Ci ⟨xq,xb,none⟩)),(16,.cells ([clR 105,clR 110]++List.replicate j AV.top))]) j [clR 105,clR 110])).trans J)
   rw[AW O O];rfl
  |some p=>
   have hV:VS 2 s (s i):=⟨i,hi,J,.inr (by rw[he];simp),hpre⟩
   obtain⟨f,hf⟩: ∃f,([105,110]:List Nat)[i]?=some f:=⟨_,List.getElem?_eq_getElem hlt⟩
   have hg:([clR 105,clR 110]++List.replicate j AV.top)[0+i]?=some (clR f):=by
    rw[Nat.zero_add]
    refine HE ?_ _
    show(List.map clR [105,110])[i]?=_
    rw[List.getElem?_map,hf];rfl
   generalize hx:s i=x at hV he
   obtain⟨xq,xb,xe⟩:=x
   dsimp only at he
   subst he
   repeat'(first|refine Ak Ab J J J J J ?_|refine Ap Ab J J J ?_|refine A0 ?_|refine AP (fun _ _ _ _=>?_)|refine Aw Ab J J ?_|(refine A1 J J J J J (ht:=fun h=>?_) (hf:=fun h=>?_)<;>try exact prn)|(refine A2 J J J J J (ht:=fun h=>?_) (hf:=fun h=>?_)<;>try exact prn)|refine Ag J J J J J ?_|(refine Al J (ht:=fun h=>?_) (hf:=fun h=>?_)<;>try exact prn)|refine AG (fun _ _ _ _ _=>?_)|refine Aq ?_|refine Ar ?_|refine A3 ?_|refine Aj Ab J J J J J J J (Ac Z) J ?_|refine Ae Ab J J J J J J J Z (Ac Z) J ?_|refine Ah Ab J J J J J J J J J J J J J (by simp[Ad];omega) ?_|refine Af Ab J J J J J J J J J J J J J J (by simp[Ad];omega) ?_|refine BH Z ?_|refine BF Z ?_|refine BG Z J ?_|refine A8 Ab J J J J J (fun _=>rfl) (fun b hb=>?_)|refine As J J J J ?_|refine A4 ?_|(refine A5 J J J J J (ht:=fun h=>?_) (hf:=fun h=>?_)<;>try exact prn)|(refine A6 J J J J J (ht:=fun h=>?_) (hf:=fun h=>?_)<;>try exact prn)|refine Ai J J J J J ?_|refine An J J J J J J J (Ac Z) J ?_|refine Ao J J J J J J J Z (Ac Z) J ?_|refine Ca Ab J J J J J J J J hlt J ?_|refine Cr Ab J J J J J hg J J ?_)
   exact Cq _ hV [8] J J J (Sub.refl _)
 ·have e:i=2:=by omega
  subst e
  have hV:VS 2 s (s 2):=⟨2,hi,J,.inl J,hpre⟩
  repeat'(first|refine Ak Ab J J J J J ?_|refine Ap Ab J J J ?_|refine A0 ?_|refine AP (fun _ _ _ _=>?_)|refine Aw Ab J J ?_|(refine A1 J J J J J (ht:=fun h=>?_) (hf:=fun h=>?_)<;>try exact prn)|(refine A2 J J J J J (ht:=fun h=>?_) (hf:=fun h=>?_)<;>try exact prn)|refine Ag J J J J J ?_|(refine Al J (ht:=fun h=>?_) (hf:=fun h=>?_)<;>try exact prn)|refine AG (fun _ _ _ _ _=>?_)|refine Aq ?_|refine Ar ?_|refine A3 ?_|refine Aj Ab J J J J J J J (Ac Z) J ?_|refine Ae Ab J J J J J J J Z (Ac Z) J ?_|refine Ah Ab J J J J J J J J J J J J J (by simp[Ad];omega) ?_|refine Af Ab J J J J J J J J J J J J J J (by simp[Ad];omega) ?_|refine BH Z ?_|refine BF Z ?_|refine BG Z J ?_|refine A8 Ab J J J J J (fun _=>rfl) (fun b hb=>?_)|refine As J J J J ?_|refine A4 ?_|(refine A5 J J J J J (ht:=fun h=>?_) (hf:=fun h=>?_)<;>try exact prn)|(refine A6 J J J J J (ht:=fun h=>?_) (hf:=fun h=>?_)<;>try exact prn)|refine Ai J J J J J ?_|refine An J J J J J J J (Ac Z) J ?_|refine Ao J J J J J J J Z (Ac Z) J ?_)
  exact DO _ hV [8] J J J (Sub.refl _)
def GL (q:Req):Nat→RS:=fun i=>match i with
  |0=>⟨q,[],none⟩
  |1=>AL ⟨q,[],none⟩
  |_=>AM (AL ⟨q,[],none⟩)
theorem XS (q:Req) (hk:q.kind=8) (hq:q.b.recs.length≤1000000):CtF Tryz.prog 55 [.ref 1 0,.t (.int .i8 8)] (wS ⟨q,[],none⟩) (VR q) (fun _=>.tuple []) wS:=by
 have hw:=Vf (GL q) (fun i hi h=>by
  match i,hi,h with
  |0,_,h=>exact⟨_,J,DZ (GL q 0) (h 0 O) (Nat.le_trans (Nat.le_refl 0) O)⟩
  |1,_,h=>exact⟨_,J,EH (GL q 1) (h 1 O) (Nat.le_trans (BV (GL q 0) 0 (h 1 O) (Nat.le_refl 0)) O)⟩
  |_+2,hi,_=>exact absurd hi O)
 refine CtF.imp hw fun x hx=>?_
 obtain⟨i,hi,rfl,hend,hpre⟩:=hx
 by_cases h0:0≤q.part∧q.part≤2
 ·skip
  by_cases h1:0≤q.offset∧q.offset≤1048576
  ·have hn: ∀j,j≤2→(GL q j).err=none:=fun j hj=>by
    match j,hj with
    |0,_=>simp[GL,AL,AM,h0,h1]
    |1,_=>simp[GL,AL,AM,h0,h1]
    |2,_=>simp[GL,AL,AM,h0,h1]
    |_+3,hj=>exact absurd hj O
   have e:i=2:=hend.elim id (fun h=>absurd (hn i hi) h)
   subst e
   exact⟨⟨fun _=>by simp[Bi,hk,h0,h1],fun _=>hn 2 (Nat.le_refl _)⟩,fun _=>⟨by simp[GL,Co,hk,AL,AM,h0,h1],Nat.le_trans (CZ (GL q 1) 6 (hn 2 O) (BV (GL q 0) 0 (hn 1 O) (Nat.le_refl 0))) O⟩⟩
  ·have hbad:(GL q 2).err≠none:=by simp[GL,AL,AM,h0,h1]
   have hne:(GL q i).err≠none:=fun e=>by
    rcases hend with rfl|h
    ·exact hbad e
    ·exact h e
   have hr:Bi q=false:=by simp only[Bi,hk];simp;grind
   exact⟨⟨fun e=>absurd e hne,fun e=>by rw[hr]at e;cases e⟩,fun e=>absurd e hne⟩
 ·have hbad:(GL q 1).err≠none:=by simp[GL,AL,AM,h0]
  have hne:(GL q i).err≠none:=fun e=>by
   rcases hend with rfl|h
   ·exact hbad (hpre 1 O)
   ·exact h e
  have hr:Bi q=false:=by simp only[Bi,hk];simp;grind
  exact⟨⟨fun e=>absurd e hne,fun e=>by rw[hr]at e;cases e⟩,fun e=>absurd e hne⟩
theorem Ya (q:Req) (hk:q.kind=0):CtF Tryz.prog 55 [.ref 1 0,.t (.int .i8 0)] (wS ⟨q,[],none⟩) (VR q) (fun _=>.tuple []) wS:=by
 refine ctF Ab Tryz.func55 J J ?_
 repeat'(first|refine Ak Ab J J J J J ?_|refine Ap Ab J J J ?_|refine A0 ?_|refine AP (fun _ _ _ _=>?_)|refine Aw Ab J J ?_|(refine A1 J J J J J (ht:=fun h=>?_) (hf:=fun h=>?_)<;>try exact prn)|(refine A2 J J J J J (ht:=fun h=>?_) (hf:=fun h=>?_)<;>try exact prn)|refine Ag J J J J J ?_|(refine Al J (ht:=fun h=>?_) (hf:=fun h=>?_)<;>try exact prn)|refine AG (fun _ _ _ _ _=>?_)|refine Aq ?_|refine Ar ?_|refine A3 ?_|refine Aj Ab J J J J J J J (Ac Z) J ?_|refine Ae Ab J J J J J J J Z (Ac Z) J ?_|refine Ah Ab J J J J J J J J J J J J J (by simp[Ad];omega) ?_|refine Af Ab J J J J J J J J J J J J J J (by simp[Ad];omega) ?_|refine BH Z ?_|refine BF Z ?_|refine BG Z J ?_|refine A8 Ab J J J J J (fun _=>rfl) (fun b hb=>?_)|refine As J J J J ?_|refine A4 ?_|(refine A5 J J J J J (ht:=fun h=>?_) (hf:=fun h=>?_)<;>try exact prn)|(refine A6 J J J J J (ht:=fun h=>?_) (hf:=fun h=>?_)<;>try exact prn)|refine Ai J J J J J ?_|refine An J J J J J J J (Ac Z) J ?_|refine Ao J J J J J J J Z (Ac Z) J ?_|refine AR Ab [(1,1)] [(1,1)] J J J J J (V0 ⟨q,[],none⟩) J J J J J ?_|refine EW 1 ?_|refine Gh ?_)
 all_goals first|(exfalso;simp at h;done)|exact DO ⟨q,[],none⟩ ⟨⟨fun _=>by simp[Bi,hk],fun _=>rfl⟩,fun _=>⟨by simp[Co,hk],Nat.zero_le _⟩⟩ [] J J J (Sub.refl _)|exact Cq ⟨q,[],none⟩ ⟨⟨fun _=>by simp[Bi,hk],fun _=>rfl⟩,fun _=>⟨by simp[Co,hk],Nat.zero_le _⟩⟩ [] J J J (Sub.refl _)
theorem XR (q:Req) (hk:q.kind=9):CtF Tryz.prog 55 [.ref 1 0,.t (.int .i8 9)] (wS ⟨q,[],none⟩) (VR q) (fun _=>.tuple []) wS:=by
 refine ctF Ab Tryz.func55 J J ?_
 repeat'(first|refine Ak Ab J J J J J ?_|refine Ap Ab J J J ?_|refine A0 ?_|refine AP (fun _ _ _ _=>?_)|refine Aw Ab J J ?_|(refine A1 J J J J J (ht:=fun h=>?_) (hf:=fun h=>?_)<;>try exact prn)|(refine A2 J J J J J (ht:=fun h=>?_) (hf:=fun h=>?_)<;>try exact prn)|refine Ag J J J J J ?_|(refine Al J (ht:=fun h=>?_) (hf:=fun h=>?_)<;>try exact prn)|refine AG (fun _ _ _ _ _=>?_)|refine Aq ?_|refine Ar ?_|refine A3 ?_|refine Aj Ab J J J J J J J (Ac Z) J ?_|refine Ae Ab J J J J J J J Z (Ac Z) J ?_|refine Ah Ab J J J J J J J J J J J J J (by simp[Ad];omega) ?_|refine Af Ab J J J J J J J J J J J J J J (by simp[Ad];omega) ?_|refine BH Z ?_|refine BF Z ?_|refine BG Z J ?_|refine A8 Ab J J J J J (fun _=>rfl) (fun b hb=>?_)|refine As J J J J ?_|refine A4 ?_|(refine A5 J J J J J (ht:=fun h=>?_) (hf:=fun h=>?_)<;>try exact prn)|(refine A6 J J J J J (ht:=fun h=>?_) (hf:=fun h=>?_)<;>try exact prn)|refine Ai J J J J J ?_|refine An J J J J J J J (Ac Z) J ?_|refine Ao J J J J J J J Z (Ac Z) J ?_|refine AR Ab [(1,1)] [(1,1)] J J J J J (Vr ⟨q,[],none⟩) J J J J J ?_|refine EW 1 ?_|refine Gh ?_)
 all_goals first|(exfalso;simp at h;done)|exact DO ⟨q,[],none⟩ ⟨⟨fun _=>by simp[Bi,hk],fun _=>rfl⟩,fun _=>⟨by simp[Co,hk],Nat.zero_le _⟩⟩ [] J J J (Sub.refl _)|exact Cq ⟨q,[],none⟩ ⟨⟨fun _=>by simp[Bi,hk],fun _=>rfl⟩,fun _=>⟨by simp[Co,hk],Nat.zero_le _⟩⟩ [] J J J (Sub.refl _)
theorem V2 (q:Req) (hk: ¬(0≤q.kind∧q.kind≤9)):CtF Tryz.prog 55 [.ref 1 0,.t (.int .i8 q.kind)] (wS ⟨q,[],none⟩) (VR q) (fun _=>.tuple []) wS:=by
 have hr:Bi q=false:=by
  unfold Bi
  repeat (rw[if_neg O])
 refine ctF Ab Tryz.func55 J J ?_
 repeat'(first|refine Ak Ab J J J J J ?_|refine Ap Ab J J J ?_|refine A0 ?_|refine AP (fun _ _ _ _=>?_)|refine Aw Ab J J ?_|(refine A1 J J J J J (ht:=fun h=>?_) (hf:=fun h=>?_)<;>try exact prn)|(refine A2 J J J J J (ht:=fun h=>?_) (hf:=fun h=>?_)<;>try exact prn)|refine Ag J J J J J ?_|(refine Al J (ht:=fun h=>?_) (hf:=fun h=>?_)<;>try exact prn)|refine AG (fun _ _ _ _ _=>?_)|refine Aq ?_|refine Ar ?_|refine A3 ?_|refine Aj Ab J J J J J J J (Ac Z) J ?_|refine Ae Ab J J J J J J J Z (Ac Z) J ?_|refine Ah Ab J J J J J J J J J J J J J (by simp[Ad];omega) ?_|refine Af Ab J J J J J J J J J J J J J J (by simp[Ad];omega) ?_|refine BH Z ?_|refine BF Z ?_|refine BG Z J ?_|refine A8 Ab J J J J J (fun _=>rfl) (fun b hb=>?_)|refine As J J J J ?_|refine A4 ?_|(refine A5 J J J J J (ht:=fun h=>?_) (hf:=fun h=>?_)<;>try exact prn)|(refine A6 J J J J J (ht:=fun h=>?_) (hf:=fun h=>?_)<;>try exact prn)|refine Ai J J J J J ?_|refine An J J J J J J J (Ac Z) J ?_|refine Ao J J J J J J J Z (Ac Z) J ?_|refine AR Ab [(1,1)] [(1,1)] J J J J J (TM q [] hk) J J J J J ?_|refine EW 1 ?_|refine Gh ?_)
 all_goals first|(exfalso;simp at h;done)|exact DO ⟨q,[],some ([75,105,110,100],2)⟩ ⟨⟨fun h=>(by cases h),fun h'=>(by rw[hr]at h';cases h')⟩,fun h=>(by cases h)⟩ [] rfl rfl rfl (Sub.refl _)
theorem V1 (q:Req) (hq:q.b.recs.length≤1000000):CtF Tryz.prog 55 [.ref 1 0,.t (.int .i8 q.kind)] (wS ⟨q,[],none⟩) (VR q) (fun _=>.tuple []) wS:=by
 by_cases h:0≤q.kind∧q.kind≤9
 ·have hc:q.kind=0∨q.kind=1∨q.kind=2∨q.kind=3∨q.kind=4∨q.kind=5∨q.kind=6∨q.kind=7∨q.kind=8∨q.kind=9:=by omega
  rcases hc with hk|hk|hk|hk|hk|hk|hk|hk|hk|hk
  ·have:=Ya q hk;rw[←hk]at this;exact this
  ·have:=XZ q hk hq;rw[←hk]at this;exact this
  ·have:=XY q hk hq;rw[←hk]at this;exact this
  ·have:=XX q hk hq;rw[←hk]at this;exact this
  ·have:=XW q hk hq;rw[←hk]at this;exact this
  ·have:=XV q hk hq;rw[←hk]at this;exact this
  ·have:=XU q hk hq;rw[←hk]at this;exact this
  ·have:=XT q hk hq;rw[←hk]at this;exact this
  ·have:=XS q hk hq;rw[←hk]at this;exact this
  ·have:=XR q hk;rw[←hk]at this;exact this
 ·exact V2 q h
end Go.Proofs.YthjoclecnacdiaaGreatDoor
