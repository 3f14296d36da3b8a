/- Contracts and laws, joined: Wo, No, Nm, Nn, Np, Nq. No condition beside those that each theorem names. -/
import Derived.Test.YtmohpcgmdheafaaGreatDoorZK23
set_option linter.unusedVariables false
set_option linter.unusedSimpArgs false
set_option maxRecDepth 100000
set_option maxHeartbeats 8000000
namespace Go.Proofs.YtmohpcgmdheafaaGreatDoor
open Go.Am
attribute [local irreducible] Decidable.decide Tr A2 hSK hSW
theorem Ad7 (b:Batch):CtF Tryz.prog 23 [.agg (Ah (Au b))] [] (fun x:Bool=>x=false->b.recs.length<=60) (fun x=>.t (.bool x)) (fun _=>[]):=by
 have hlm:(b.recs.map AJ).length=b.recs.length:=List.length_map ..
 refine ctF Ag Tryz.func23 Y Y ?_
 repeat'(first|exact prB|refine stC ?_|refine stU (fun h=>?_) fun h=>?_|refine stN (fun b hb=>?_)|refine stD 5 18 ?_|fail)
 refine A3 (ι:=Int×Nat) (fun p=>p.2<=b.recs.length) (fun p=>[(1,.ref 2 0),(3,.t (.int .i64 p.1)),(4,.t (.int .i64 p.2))]) (fun _=>[(2,.cells (Ah (Au b)))]) (fun p=>b.recs.length-p.2) (0,0) Ac ?_ ?_
 ·exact AE [] (Af Y Y (Af Y Y (Af Y Y Aj))) Y
 rintro⟨s,i⟩ hi
 dsimp only at hi
 by_cases hlt:i<b.recs.length
 ·have hr:b.recs[i]?=some b.recs[i]:=List.getElem?_eq_getElem hlt
  generalize b.recs[i]=c at hr
  repeat'(first|exact prB|refine stC ?_|refine stU (fun h=>?_) fun h=>?_|refine stN (fun b hb=>?_)|refine stD 5 18 ?_|fail)
  all_goals first
   |(refine Ay (_,i+1) hlt (show b.recs.length-(i+1)<b.recs.length-i by omega) [] (Af Y Y (Af Y Y (Af Y (by rw[An Aa Aa];rfl) Aj))) Y)
   |(refine E7 _ (fun hx=>?_) [1] Y Y Y (A1x _);first|(cases hx;done)|omega)
 ·repeat'(first|exact prB|refine stC ?_|refine stU (fun h=>?_) fun h=>?_|refine stN (fun b hb=>?_)|refine stD 5 18 ?_|fail)
  all_goals(refine E7 _ (fun hx=>?_) [1] Y Y Y (A1x _);first|(cases hx;done)|omega)
structure PB (p:Part):Prop where
 rows:p.rows.length<=1000
 opens:p.opens.length<=1000
theorem UF (l:List Row) (hl:l.length<=100000000):A17 107 [.t (.slice .any 5 (l.map A8)),.t (.slice .any 5 (l.map A8))] [] (.t (.bool true)) []:=by
 have hlm:(l.map A8).length=l.length:=List.length_map ..
 refine ct0 Ag Tryz.func107 Y false Y Y ?_
 repeat'(first|exact prB|refine stC ?_|refine stU (fun h=>?_) fun h=>?_|refine stN (fun b hb=>?_)|refine stE 6 8 ?_|fail)
 all_goals try(exfalso;simp_all;done)
 refine A3 (ι:=Nat) (fun i=>i<=l.length) (fun i=>[(0,.t (.slice .any 5 (l.map A8))),(1,.t (.slice .any 5 (l.map A8))),(5,.t (.int .i64 i))]) (fun _=>[]) (fun i=>l.length-i) 0 Ac ?_ ?_
 ·exact AE [] (Af Y Y (Af Y Y (Af Y Y Aj))) Y
 rintro i hi
 by_cases hlt:i<l.length
 ·have hr:l[i]?=some l[i]:=List.getElem?_eq_getElem hlt
  generalize l[i]=r at hr
  repeat'(first|exact prB|refine stC ?_|refine stU (fun h=>?_) fun h=>?_|refine stN (fun b hb=>?_)|refine stE 6 8 ?_|fail)
  all_goals first
   |(exfalso;omega)
   |(exfalso;simp_all;done)
   |(refine Ay (i+1) hlt Aa [] (Af Y Y (Af Y Y (Af Y (by rw[An Aa Aa];rfl) Aj))) Y)
 ·repeat'(first|exact prB|refine stC ?_|refine stU (fun h=>?_) fun h=>?_|refine stN (fun b hb=>?_)|refine stE 6 8 ?_|fail)
  all_goals first
   |(exfalso;omega)
   |exact Ai Y (A1y Y)
theorem Y8 (l:List Wr) (hl:l.length<=100000000):A17 20 [.t (.slice .any 4 (l.map AF)),.t (.slice .any 4 (l.map AF))] [] (.t (.bool true)) []:=by
 have hlm:(l.map AF).length=l.length:=List.length_map ..
 refine ct0 Ag Tryz.func20 Y false Y Y ?_
 repeat'(first|exact prB|refine stC ?_|refine stU (fun h=>?_) fun h=>?_|refine stN (fun b hb=>?_)|refine stE 6 8 ?_|fail)
 all_goals try(exfalso;simp_all;done)
 refine A3 (ι:=Nat) (fun i=>i<=l.length) (fun i=>[(0,.t (.slice .any 4 (l.map AF))),(1,.t (.slice .any 4 (l.map AF))),(5,.t (.int .i64 i))]) (fun _=>[]) (fun i=>l.length-i) 0 Ac ?_ ?_
 ·exact AE [] (Af Y Y (Af Y Y (Af Y Y Aj))) Y
 rintro i hi
 by_cases hlt:i<l.length
 ·have hr:l[i]?=some l[i]:=List.getElem?_eq_getElem hlt
  generalize l[i]=r at hr
  repeat'(first|exact prB|refine stC ?_|refine stU (fun h=>?_) fun h=>?_|refine stN (fun b hb=>?_)|refine stE 6 8 ?_|fail)
  all_goals first
   |(exfalso;omega)
   |(exfalso;simp_all;done)
   |(refine Ay (i+1) hlt Aa [] (Af Y Y (Af Y Y (Af Y (by rw[An Aa Aa];rfl) Aj))) Y)
 ·repeat'(first|exact prB|refine stC ?_|refine stU (fun h=>?_) fun h=>?_|refine stN (fun b hb=>?_)|refine stE 6 8 ?_|fail)
  all_goals first
   |(exfalso;omega)
   |exact Ai Y (A1y Y)
theorem Sz (l:List Opn) (hl:l.length<=1000000) (hs: ∀o∈l,JQ o):A17 108 [.t (.slice .any 3 (l.map As)),.t (.slice .any 3 (l.map As))] [] (.t (.bool true)) []:=by
 have hlm:(l.map As).length=l.length:=List.length_map ..
 refine ct0 Ag Tryz.func108 Y false Y Y ?_
 repeat'(first|exact prB|refine stC ?_|refine stU (fun h=>?_) fun h=>?_|refine stN (fun b hb=>?_)|refine stE 6 37 ?_|refine stE 11 16 ?_|fail)
 all_goals try(exfalso;simp_all;done)
 refine A3 (ι:=Nat) (fun i=>i<=l.length) (fun i=>[(0,.t (.slice .any 3 (l.map As))),(1,.t (.slice .any 3 (l.map As))),(5,.t (.int .i64 i))]) (fun _=>[]) (fun i=>l.length-i) 0 Ac ?_ ?_
 ·exact AE [] (Af Y Y (Af Y Y (Af Y Y Aj))) Y
 rintro i hi
 by_cases hlt:i<l.length
 ·have hr:l[i]?=some l[i]:=List.getElem?_eq_getElem hlt
  have hso:=hs l[i] (List.getElem_mem hlt)
  generalize l[i]=o at hr hso
  have hlb:(o.batches.map Au).length=o.batches.length:=List.length_map ..
  have hbl:=hso.1
  repeat'(first|exact prB|refine stC ?_|refine stU (fun h=>?_) fun h=>?_|refine stN (fun b hb=>?_)|refine stE 6 37 ?_|refine stE 11 16 ?_|fail)
  all_goals try(exfalso;omega)
  all_goals try(exfalso;simp_all;done)
  refine A3 (ι:=Nat) (fun j=>j<=o.batches.length) (fun j=>[(0,.t (.slice .any 3 (l.map As))),(1,.t (.slice .any 3 (l.map As))),(5,.t (.int .i64 i)),(6,.t (.int .i64 j))]) (fun _=>[]) (fun j=>o.batches.length-j) 0 Ac ?_ ?_
  ·exact AE [] (Af Y Y (Af Y Y (Af Y Y (Af Y Y Aj)))) Y
  rintro j hj
  by_cases hlt2:j<o.batches.length
  ·have hr2:o.batches[j]?=some o.batches[j]:=List.getElem?_eq_getElem hlt2
   have hsb:=hso.2 o.batches[j] (List.getElem_mem hlt2)
   generalize o.batches[j]=b at hr2 hsb
   have cs:=QN b b hsb
   rw[decide_eq_true Y]at cs
   repeat'(first|exact prB|refine stC ?_|refine stU (fun h=>?_) fun h=>?_|refine stN (fun b hb=>?_)|refine stE 6 37 ?_|refine stE 11 16 ?_|refine stM ?_ (c:=cs)|refine stL ?_ (c:=cs)|fail)
   all_goals first
    |(exfalso;omega)
    |(exfalso;simp_all;done)
    |(refine Ay (j+1) hlt2 Aa [] (Af Y Y (Af Y Y (Af Y Y (Af Y (by rw[An Aa Aa];rfl) Aj)))) Y)
  ·repeat'(first|exact prB|refine stC ?_|refine stU (fun h=>?_) fun h=>?_|refine stN (fun b hb=>?_)|refine stE 6 37 ?_|refine stE 11 16 ?_|fail)
   all_goals first
    |(exfalso;omega)
    |(refine Ay (i+1) hlt Aa [] (Af Y Y (Af Y Y (Af Y (by rw[An Aa Aa];rfl) Aj))) Y)
 ·repeat'(first|exact prB|refine stC ?_|refine stU (fun h=>?_) fun h=>?_|refine stN (fun b hb=>?_)|refine stE 6 37 ?_|refine stE 11 16 ?_|fail)
  all_goals first
   |(exfalso;omega)
   |exact Ai Y (A1y Y)
theorem NT (p:Part) (hs:AR p):A17 50 [.agg (Ah (AD p)),.agg (Ah (AD p))] [] (.t (.bool true)) []:=by
 have c1:=UF p.rows (by have:=hs.1;omega)
 have c2:=Sz p.opens hs.2.1 hs.2.2.1
 have c3:=Acp p.prods hs.2.2.2.1 hs.2.2.2.2
 refine ct0 Ag Tryz.func50 Y false Y Y ?_
 repeat'(first|exact prB|refine stC ?_|refine stU (fun h=>?_) fun h=>?_|refine stN (fun b hb=>?_)|refine stL ?_ (c:=c1)|refine stL ?_ (c:=c2)|refine stL ?_ (c:=c3)|fail)
 all_goals first
  |(exfalso;simp_all;done)
  |exact Ai Y (A1y Y)
theorem Acq (i:Image) (hs:SmallI i):A17 21 [.agg (Ah (A1 i)),.agg (Ah (A1 i))] [] (.t (.bool true)) []:=by
 have c0:=NT i.p0 hs.p0
 have c1:=NT i.p1 hs.p1
 have c2:=NT i.p2 hs.p2
 have cm:=Acr i.m ⟨hs.t0,hs.t1,hs.t2⟩
 have hw0:IntKind.i64.wrap (0+1)=1:=by decide+kernel
 have hw1:IntKind.i64.wrap (1+1)=2:=by decide+kernel
 have hw2:IntKind.i64.wrap (2+1)=3:=by decide+kernel
 refine ct0 Ag Tryz.func21 Y false Y Y ?_
 repeat'(first|exact prB|refine stC ?_|refine stU (fun h=>?_) fun h=>?_|refine stN (fun b hb=>?_)|refine stE 4 8 ?_|refine stM ?_ (c:=c0)|refine stM ?_ (c:=c1)|refine stM ?_ (c:=c2)|refine stL ?_ (c:=c0)|refine stL ?_ (c:=c1)|refine stL ?_ (c:=c2)|refine stL ?_ (c:=cm)|refine AN 5 ?_|refine AQ ?_|rw[hw0]|rw[hw1]|rw[hw2]|fail)
 all_goals first
  |(exfalso;simp_all;done)
  |exact Ai Y (AP (by simp_all))
theorem QM (s:Step) (hs:SmallI s.i) (hw:s.w.length<=1000000):A17 8 [.t (.slice .any 48 [Di s]),.t (.slice .any 48 [Di s])] [] (.t (.bool true)) []:=by
 have c0:=Y8 s.w Aa
 have c1:=Acq s.i hs
 have hw0:IntKind.i64.wrap (0+1)=1:=by decide+kernel
 refine ct0 Ag Tryz.func8 Y false Y Y ?_
 repeat'(first|exact prB|refine stC ?_|refine stU (fun h=>?_) fun h=>?_|refine stN (fun b hb=>?_)|refine stE 6 23 ?_|refine stM ?_ (c:=c0)|refine stM ?_ (c:=c1)|refine stL ?_ (c:=c0)|refine stL ?_ (c:=c1)|refine AN 3 ?_|refine AQ ?_|rw[hw0]|fail)
 all_goals first
  |(exfalso;simp_all;done)
  |exact Ai Y (AP (by simp_all))
theorem Zx (l:List Prod):CtF Tryz.prog 22 [.t (.slice .any 4 (l.map Al))] [] (fun x:Bool=>x=false->l.length<=40/\ ∀p∈l,p.seen.length<=40) (fun x=>.t (.bool x)) (fun _=>[]):=by
 have hlm:(l.map Al).length=l.length:=List.length_map ..
 refine ctF Ag Tryz.func22 Y Y ?_
 repeat'(first|exact prB|refine stC ?_|refine stU (fun h=>?_) fun h=>?_|refine stN (fun b hb=>?_)|fail)
 refine A3 (ι:=Nat) (fun i=>i<=l.length/\i<=41/\ ∀p∈l.take i,p.seen.length<=40) (fun i=>[(0,.t (.slice .any 4 (l.map Al))),(3,.t (.int .i64 i))]) (fun _=>[]) (fun i=>l.length-i) 0 ⟨by omega,by omega,by simp⟩ ?_ ?_
 ·exact AE [] (Af Y Y (Af Y Y Aj)) Y
 rintro i ⟨hi,h41,hall⟩
 by_cases hlt:i<l.length/\i<=40
 ·have hr:l[i]?=some l[i]:=List.getElem?_eq_getElem hlt.1
  generalize l[i]=p at hr
  have hls:(p.seen.map AM).length=p.seen.length:=List.length_map ..
  repeat'(first|exact prB|refine stC ?_|refine stU (fun h=>?_) fun h=>?_|refine stN (fun b hb=>?_)|fail)
  all_goals first
   |(exfalso;omega)
   |exact E7 true (fun hx=>by cases hx) [] rfl rfl rfl (A1x _)
   |(refine Ay (i+1) ⟨hlt.1,by omega,fun q hq=>?_⟩ Aa [] (Af Y Y (Af Y (by rw[An Aa Aa];rfl) Aj)) Y
     rw[A5 hr,List.mem_append,List.mem_singleton]at hq
     rcases hq with hq|rfl
     ·exact hall q hq
     ·omega)
 ·repeat'(first|exact prB|refine stC ?_|refine stU (fun h=>?_) fun h=>?_|refine stN (fun b hb=>?_)|fail)
  all_goals first
   |(exfalso;omega)
   |(refine E7 _ (fun hx=>?_) [] Y Y Y (A1x _)
     have h0:l.length<=40:=by have:=of_decide_eq_false hx;omega
     rw[List.take_of_length_le Aa]at hall
     exact⟨h0,hall⟩)
end Go.Proofs.YtmohpcgmdheafaaGreatDoor
namespace Go.Proofs.YtmohpcgmdheafaaGreatDoor
open Go.Am
attribute [local irreducible] Decidable.decide
theorem Jg {c:Coord} {yes:Bool} {thn:Int} (hp:Cb c yes thn=0):Bp c=true/\((0<=thn/\thn<=20)/\(yes=true->thn=0))/\ ¬(0<thn/\100<=c.epoch):=by
 unfold Cb at hp
 split at hp
 ·rename_i h;exact absurd hp h
 ·rename_i h
  have h':Fw c 2 (decide ((0<=thn/\thn<=20)/\(yes=true->thn=0)))=0:=Classical.not_not.1 h
  unfold Fw at h'
  split at h'
  ·cases h'
  ·rename_i hn
   have hm:Bp c=true:=by
    cases hmm:Bp c with
    |true=>rfl
    |false=>exact absurd (.inr hmm) hn
   have hf:(0<=thn/\thn<=20)/\(yes=true->thn=0):=by
    refine Classical.byContradiction fun hx=>hn (.inl (decide_eq_false hx))
   refine⟨hm,hf,fun hx=>?_⟩
   rw[if_pos hx]at hp
   cases hp
theorem Alq {c:Coord} {yes:Bool} {thn:Int} (hp:Cb c yes thn=0):C9 c yes thn=Cu c yes thn:=by simp[C9,hp,Cu]
theorem Ada {c:Coord} {yes:Bool} {thn:Int} (hm:Bp c=true) (h2:c.state=2):Cb c yes thn=if ¬((0<=thn/\thn<=20)/\(yes=true->thn=0))then 2 else if 0<thn/\100<=c.epoch then 102 else 0:=by
 have hb:CY c.state 2=true:=by rw[h2];decide+kernel
 by_cases hf:(0<=thn/\thn<=20)/\(yes=true->thn=0)
 ·rw[if_neg (fun x=>x hf)]
  unfold Cb Fw
  rw[decide_eq_true hf,hm,hb]
  simp
 ·rw[if_pos hf]
  unfold Cb Fw
  rw[decide_eq_false hf]
  simp
theorem YN (c:Coord) (yes:Bool) (thn:Int):DZ (Cu c yes thn)=DZ c:=rfl
theorem It {c:Coord} {yes:Bool} {thn:Int} (hm:Bp c=true) (h2:c.state=2) (hf:(0<=thn/\thn<=20)/\(yes=true->thn=0)) (hx: ¬(0<thn/\100<=c.epoch)):Bp (Cu c yes thn)=true:=by
 have hr:=D2 hm Aa
 rw[<-YN c yes thn]at hr
 cases yes with
 |true=>
  have h0:thn=0:=hf.2 Y
  have e:(Cu c true thn).state=3:=rfl
  have et:(Cu c true thn).thn=0:=h0
  unfold Bp
  simp[e,et,hr]
 |false=>
  have e:(Cu c false thn).state=4:=rfl
  have et:(Cu c false thn).thn=thn:=rfl
  have ee:(Cu c false thn).epoch=c.epoch:=rfl
  unfold Bp
  rw[if_neg (by rw[e];decide),if_neg (by rw[e];decide),if_neg (by rw[e];decide),if_pos e,hr,et,ee]
  simp;omega
theorem LW (c:Coord) (yes:Bool) (thn:Int):(Cu c yes thn).state=3\/(Cu c yes thn).state=4:=by
 cases yes
 ·exact .inr Y
 ·exact .inl Y
theorem Sk {c:Coord} (hm:Bp c=true) (h:c.state=3\/c.state=4):DH c=0:=by
 have hb:CY c.state 3=true:=by rcases h with h|h<;>simp[CY,h]
 simp[DH,Fw,hm,hb]
theorem Aer {c:Coord} (hm:Bp c=true) (h:c.state=3\/c.state=4):Bp (Cd c)=true/\(Cd c).pid=c.pid:=by
 have e:=Sk hm h
 have ec:Cd c=if 0<c.thn then⟨1,c.pid,c.epoch+1,c.thn,0,[],[],0⟩else⟨if c.state=4 then 6 else 5,c.pid,c.epoch,c.timeout,0,[],[],0⟩:=by simp[Cd,e]
 have hr:=DY (D2 hm Aa)
 have ht:0<c.thn->c.epoch<100/\c.thn<=20:=by
  intro h0
  unfold Bp at hm
  rcases h with h|h
  ·simp[h]at hm;omega
  ·simp[h]at hm;omega
 rw[ec]
 by_cases h0:0<c.thn
 ·rw[if_pos h0]
  have:=ht h0
  refine⟨?_,Y⟩
  simp only[Bp,DZ,BR,DX,Hd,List.all_nil,Bool.true_and,Bool.and_true,Int.reduceEq,if_false,true_or,or_true,if_true,and_self,decide_true,Bool.and_eq_true,decide_eq_true_eq]
  omega
 ·rw[if_neg h0]
  refine⟨?_,Y⟩
  rcases h with h|h
  all_goals
   simp only[h,Bp,DZ,BR,DX,Hd,List.all_nil,Bool.true_and,Bool.and_true,Int.reduceEq,if_false,true_or,or_true,if_true,and_self,decide_true,Bool.and_eq_true,decide_eq_true_eq]
   omega
theorem KI (s:MState) {t:Int} (h:0<=t/\t<3) (c:Coord):Av (AO s t c) t=c:=by
 rcases BB h with rfl|rfl|rfl<;>rfl
theorem Lf {s:MState} {t:Int} {c:Coord} (h:0<=t/\t<3) (hm:BQ s=true) (hc:Bp c=true) (hp:c.pid=(Av s t).pid):BQ (AO s t c)=true:=by
 simp only[BQ,EA,Bool.and_eq_true,decide_eq_true_eq]at hm
 rcases BB h with rfl|rfl|rfl
 all_goals
  simp only[Av,Int.reduceEq,if_true,if_false]at hp
  simp only[AO,BQ,EA,Int.reduceEq,if_true,if_false,Bool.and_eq_true,decide_eq_true_eq,hp,hc,true_and,and_true]
  simp only[hm,true_and,and_true,and_self,not_false_eq_true,ne_eq]
theorem Adw {s:MState} {g q n:Int} (hm:BQ s=true) (hn:Gz n=true):BQ (IY s g q n)=true:=by
 simp only[BQ,Bool.and_eq_true]at hm
 unfold IY
 repeat' split
 all_goals(simp only[BQ,Bool.and_eq_true,hn,true_and,and_true];simp only[hm,and_self])
theorem OT: ∀(l:List Pend) {s:MState},BQ s=true->l.all Cc=true->BQ (BI s l)=true
 |[],_,h,_=>h
 |p::r,s,h,ha=>by
  simp only[List.all_cons,Bool.and_eq_true]at ha
  have hp:=ha.1
  simp only[Cc,decide_eq_true_eq]at hp
  exact OT r (Adw h (by simp only[Gz,decide_eq_true_eq];omega)) ha.2
theorem Ok {c:Coord} (hm:Bp c=true) (h0:c.state≠0):c.pends.all Cc=true:=by
 have:=D2 hm h0
 unfold DZ at this
 simp only[Bool.and_eq_true]at this
 exact this.1
theorem Kk {s:MState} {t:Int} (h:0<=t/\t<3) (hm:BQ s=true) (hc:Bp (Av s t)=true) (h34:(Av s t).state=3\/(Av s t).state=4):BQ (D4 s t)=true:=by
 have h1:=Aer hc h34
 have h2:=Lf h hm h1.1 h1.2
 unfold D4
 split
 ·exact OT _ h2 (Ok hc Aa)
 ·exact h2
theorem PP {s:MState} (hm:BQ s=true):MayT s:=by
 simp only[BQ,Bool.and_eq_true]at hm
 exact⟨hm.2.1.1,hm.2.2.1.1,hm.2.2.2.1.1⟩
theorem MayT.tid {s:MState} (h:MayT s) (t:Int):Bp (Av s t)=true:=by
 unfold Av;repeat' split
 ·exact h.t0
 ·exact h.t1
 ·exact h.t2
theorem PQ {c:Coord} (h:Bp c=true):StC c:=by
 unfold Bp at h
 repeat' split at h
 all_goals first
  |(cases h;done)
  |(constructor<;>omega)
theorem Ki {s:MState} (hm:BQ s=true):StM s:=by
 have:=PP hm
 exact⟨PQ this.t0,PQ this.t1,PQ this.t2⟩
theorem Ag8 (i:Image) {q q':Int} (h:q=0\/q=1\/q=2) (h':q'=0\/q'=1\/q'=2) (p:Part):AX (UE i q p) q'=if q'=q then p else AX i q':=by
 rcases h with rfl|rfl|rfl<;>rcases h' with rfl|rfl|rfl<;>rfl
theorem TU (pid:Int) (yes:Bool) (s:Step) (q:Int):(CB pid yes s q).i.m=s.i.m/\(CB pid yes s q).i.tag=s.i.tag:=by
 unfold CB UE
 simp only
 repeat' split
 all_goals exact⟨Y,Y⟩
theorem Gp (pid:Int) (yes:Bool): ∀(l:List Int) (s:Step),(Dr pid yes s l).i.m=s.i.m/\(Dr pid yes s l).i.tag=s.i.tag
 |[],_=>⟨Y,Y⟩
 |q::r,s=>by
  have h1:=TU pid yes s q
  have h2:=Gp pid yes r (CB pid yes s q)
  exact⟨h2.1.trans h1.1,h2.2.trans h1.2⟩
theorem Gn (pid:Int) (yes:Bool): ∀(l:List Int) (s:Step) (q':Int),l.Nodup->(∀q∈l,q=0\/q=1\/q=2)->(q'=0\/q'=1\/q'=2)->AX (Dr pid yes s l).i q'=if q'∈l then(End s.i.tag q' (AX s.i q') pid yes).part else AX s.i q'
 |[],_,_,_,_,_=>by simp[Dr]
 |q::r,s,q',hn,hq,hq'=>by
  have hn':=List.nodup_cons.1 hn
  have ih:=Gn pid yes r (CB pid yes s q) q' hn'.2 (fun x hx=>hq x (by simp[hx])) hq'
  have hs:=Ag8 s.i (hq q Ac) hq' (End s.i.tag q (AX s.i q) pid yes).part
  have e:Dr pid yes s (q::r)=Dr pid yes (CB pid yes s q) r:=rfl
  have ep:AX (CB pid yes s q).i q'=if q'=q then(End s.i.tag q (AX s.i q) pid yes).part else AX s.i q':=hs
  have et:(CB pid yes s q).i.tag=s.i.tag:=(TU pid yes s q).2
  rw[e,ih,ep,et]
  by_cases h1:q'=q
  ·subst h1
   have hnr:q'∉r:=hn'.1
   simp[hnr]
  ·simp[h1]
theorem HK {l:List Int} (h:BR l=true):l.Nodup/\(∀q∈l,q=0\/q=1\/q=2):=by
 simp only[BR,Bool.and_eq_true]at h
 refine⟨?_,fun q hq=>?_⟩
 ·exact(QR l h.1).imp fun h=>by omega
 ·have:=List.all_eq_true.1 h.2 q hq
  simp only[CJ,decide_eq_true_eq]at this;omega
theorem Ahe {l:List Int} (hn:l.Nodup) (h: ∀q∈l,q=0\/q=1\/q=2):l.length<=3:=by
 match l,hn,h with
 |[],_,_=>simp
 |[_],_,_=>simp
 |[_,_],_,_=>simp
 |[_,_,_],_,_=>simp
 |a::b::c::d::r,hn,h=>
  exfalso
  have ha:=h a Ac
  have hb:=h b Ac
  have hc:=h c Ac
  have hd:=h d Ac
  simp only[List.nodup_cons,List.mem_cons,not_or]at hn
  obtain⟨⟨h1,h2,h3,_⟩,⟨h4,h5,_⟩,⟨h6,_⟩,_⟩:=hn
  omega
theorem Abr {e q:Int} {p:Part} {pid:Int} {yes:Bool} (hp:POk p) (he:e=0\/e=1) (hq:q=0\/q=1\/q=2):(End e q p pid yes).e=0:=by
 have hb:F4 e q p=false:=by
  unfold F4;rw[Dq.2 hp,decide_eq_false Aa,decide_eq_false Aa];rfl
 unfold End
 rw[hb]
 simp only[Bool.false_eq_true,if_false]
 split<;>rfl
theorem Aiz {e q:Int} {p:Part} {pid:Int} {yes:Bool} (hp:POk p) (he:e=0\/e=1) (hq:q=0\/q=1\/q=2):End e q p pid yes=⟨p,[],0⟩\/ ∃(k:Nat) (o:Opn),p.opens[k]?=some o/\o.pid=pid/\End e q p pid yes=⟨Em e p k o yes,Lz e q o yes,0⟩:=by
 have:=(As8 (Abr (yes:=yes) (pid:=pid) hp he hq)).2
 rcases this with⟨_,h⟩|⟨k,o,h1,h2,h3⟩
 ·exact .inl h
 ·exact .inr ⟨k,o,h1,h2,h3⟩
theorem QA {e q:Int} {p:Part} {pid:Int} {yes:Bool} (hb:PB p) (hs:AR p) (hp:POk p) (he:e=0\/e=1) (hq:q=0\/q=1\/q=2):AR (End e q p pid yes).part/\Srt Opn.pid (End e q p pid yes).part.opens/\(End e q p pid yes).w.length<=20/\(∀o∈(End e q p pid yes).part.opens,o∈p.opens):=by
 rcases Aiz (yes:=yes) (pid:=pid) hp he hq with h|⟨k,o,h1,h2,h3⟩
 ·rw[h];exact⟨hs,hp.osrt,by simp,fun o ho=>ho⟩
 ·rw[h3]
  have hcp:=(hp.ook o (List.mem_of_getElem? h1)).1
  have hbl:=BU hcp
  have hrn:=Fp (l:=o.batches) (fun b hb=>(CF hcp b hb).1)
  have hsub: ∀x∈p.opens.eraseIdx k,x∈p.opens:=fun x hx=>List.mem_of_mem_eraseIdx hx
  refine⟨⟨?_,?_,?_,?_⟩,SW hp.osrt,?_,hsub⟩
  ·show(E1 p o yes).1.length<=1000000
   have:=hb.rows
   unfold E1
   split
   ·simp only[List.length_append,EU];omega
   ·simp only[];omega
  ·show(p.opens.eraseIdx k).length<=1000000
   have:=hs.2.1
   have:=List.length_eraseIdx_le p.opens k
   omega
  ·exact fun x hx=>hs.2.2.1 x (hsub x hx)
  ·exact Kh (Uf hp.may o.pid)
  ·show(Lz e q o yes).length<=20
   unfold Lz
   split
   ·simp[Dp]
   ·unfold LC
    have hlc:(B7 o).length=o.batches.length:=by simp[B7]
    split<;>simp[Dp]<;>omega
structure Fit (i:Image):Prop where
 small:SmallI i
 pok:POkI i
 b0:PB i.p0
 b1:PB i.p1
 b2:PB i.p2
 may:BQ i.m=true
 tag:i.tag=0\/i.tag=1
 owns: ∀t,(t=0\/t=1\/t=2)->(Av i.m t).parts=AH i (Av i.m t).pid
theorem Fit.pq {i:Image} (h:Fit i) {q:Int} (hq:q=0\/q=1\/q=2):POk (AX i q)/\PB (AX i q)/\AR (AX i q):=by
 rcases hq with rfl|rfl|rfl
 ·exact⟨h.pok.p0,h.b0,h.small.p0⟩
 ·exact⟨h.pok.p1,h.b1,h.small.p1⟩
 ·exact⟨h.pok.p2,h.b2,h.small.p2⟩
theorem Zz {i:Image} (hs:SmallI i) (h0:PB i.p0) (h1:PB i.p1) (h2:PB i.p2) (hc:C8 i=true):Fit i:=by
 rw[GU]at hc
 simp only[Bool.and_eq_true,decide_eq_true_eq,okQ,okT,AX,Int.reduceEq,if_true,if_false]at hc
 obtain⟨ht,hm,⟨⟨q0,_⟩,⟨q1,_⟩,⟨q2,_⟩⟩,⟨o0,o1,o2⟩⟩:=hc
 refine⟨hs,⟨Dq.1 q0,Dq.1 q1,Dq.1 q2⟩,h0,h1,h2,hm,ht,fun t ht=>?_⟩
 rcases ht with rfl|rfl|rfl
 ·exact o0
 ·exact o1
 ·exact o2
theorem SmallI.mk' {i:Image} (hp: ∀q,(q=0\/q=1\/q=2)->AR (AX i q)) (hm:SmallM i.m):SmallI i:=⟨hp 0 Ac,hp 1 Ac,hp 2 Ac,hm.t0,hm.t1,hm.t2⟩
section
variable {i:Image} {pid:Int} {yes:Bool} {w:List Wr} {m:MState}
theorem Ae5 (F:Fit i) (hm:SmallM m) (hw:w.length<=10) {l:List Int} (hn:l.Nodup) (hl: ∀q∈l,q=0\/q=1\/q=2):SmallI (Dr pid yes ⟨w,EC i m⟩ l).i:=by
 refine SmallI.mk' (fun q hq=>?_) ?_
 ·rw[Gn pid yes l _ q hn hl hq]
  have hh:=F.pq hq
  split
  ·exact(QA hh.2.1 hh.2.2 hh.1 F.tag hq).1
  ·exact hh.2.2
 ·rw[(Gp pid yes l _).1];exact hm
theorem Arj (F:Fit i) (hw:w.length<=10): ∀{l:List Int},l.Nodup->(∀q∈l,q=0\/q=1\/q=2)-> ∀k,k<=l.length->(Dr pid yes ⟨w,EC i m⟩ (l.take k)).w.length<=10+20*k:=by
 intro l hn hl k
 induction k with
 |zero=>intro _;simpa[Dr]using hw
 |succ k ih=>
  intro hk
  have ih:=ih Aa
  have hr:l[k]?=some l[k]:=List.getElem?_eq_getElem Aa
  rw[A5 hr,Gm]
  unfold CB
  simp only[List.length_append]
  have hq:=hl l[k] (List.getElem_mem Aa)
  have hnt:(l.take k).Nodup:=hn.sublist (List.take_sublist ..)
  have hlt: ∀q∈l.take k,q=0\/q=1\/q=2:=fun q hq=>hl q (List.mem_of_mem_take hq)
  rw[Gn pid yes (l.take k) _ l[k] hnt hlt hq,(Gp pid yes (l.take k) _).2]
  have hni:l[k]∉l.take k:=by
   intro hx
   obtain⟨j,hj,e⟩:=List.mem_take_iff_getElem.1 hx
   exact List.pairwise_iff_getElem.1 hn j k Aa Aa Aa e
  rw[if_neg hni]
  have hh:=F.pq hq
  have:=(QA (e:=i.tag) (pid:=pid) (yes:=yes) hh.2.1 hh.2.2 hh.1 F.tag hq).2.2.1
  have e2:(EC i m).tag=i.tag:=rfl
  have e3:AX (EC i m) l[k]=AX i l[k]:=rfl
  simp only[e2,e3]
  omega
theorem XZ {l:List Int} (hn:l.Nodup) (hl: ∀q∈l,q=0\/q=1\/q=2) {k:Nat} {q:Int} (hk:l[k]?=some q):(q=0\/q=1\/q=2)/\AX (Dr pid yes ⟨w,EC i m⟩ (l.take k)).i q=AX i q/\(Dr pid yes ⟨w,EC i m⟩ (l.take k)).i.tag=i.tag:=by
 obtain⟨hlt,e⟩:=List.getElem?_eq_some_iff.1 hk
 have hq:=hl q (List.mem_of_getElem? hk)
 have hnt:(l.take k).Nodup:=hn.sublist (List.take_sublist ..)
 have hlt': ∀q∈l.take k,q=0\/q=1\/q=2:=fun q hq=>hl q (List.mem_of_mem_take hq)
 refine⟨hq,?_,(Gp pid yes (l.take k) _).2⟩
 rw[Gn pid yes (l.take k) _ q hnt hlt' hq]
 have hni:q∉l.take k:=by
  intro hx
  obtain⟨j,hj,e'⟩:=List.mem_take_iff_getElem.1 hx
  exact List.pairwise_iff_getElem.1 hn j k Aa hlt Aa (e'.trans e.symm)
 rw[if_neg hni]
 rfl
theorem Abq (F:Fit i) (hm:SmallM m) (hw:w.length<=10) {l:List Int} (hn:l.Nodup) (hl: ∀q∈l,q=0\/q=1\/q=2):EndsOk pid yes ⟨w,EC i m⟩ l:=by
 have h3:=Ahe hn hl
 refine⟨by omega,fun k hk=>?_,fun k q hk=>?_,fun k hk=>?_⟩
 ·exact Ae5 F hm hw (hn.sublist (List.take_sublist ..)) fun q hq=>hl q (List.mem_of_mem_take hq)
 ·obtain⟨hq,hp,ht⟩:=XZ (pid:=pid) (yes:=yes) (w:=w) (m:=m) (i:=i) hn hl hk
  refine⟨hq,?_⟩
  rw[hp,ht]
  exact Abr (F.pq hq).1 F.tag hq
 ·have:=Arj F (pid:=pid) (yes:=yes) (m:=m) hw hn hl k hk
  omega
end
end Go.Proofs.YtmohpcgmdheafaaGreatDoor
namespace Go.Proofs.YtmohpcgmdheafaaGreatDoor
open Go.Am
attribute [local irreducible] Decidable.decide Tr A2 hSK hSW
section
variable {i:Image}
def jOf (i:Image) (tid:Int) (yes:Bool) (thn:Int):Step:=Dr (Av i.m tid).pid yes ⟨Cy i.tag (mb3 tid yes thn),EC i (AO i.m tid (Cu (Av i.m tid) yes thn))⟩ (Av i.m tid).parts
def kOf (i:Image) (tid:Int) (yes:Bool) (thn:Int):Image:=EC (jOf i tid yes thn).i (D4 (AO i.m tid (Cu (Av i.m tid) yes thn)) tid)
def Lk (i:Image) (tid:Int) (yes:Bool) (thn:Int):Step:=⟨(jOf i tid yes thn).w++Cy i.tag (mb4 tid),BH (kOf i tid yes thn) (pl0 (kOf i tid yes thn)) (pl1 (kOf i tid yes thn)) (pl2 (kOf i tid yes thn))⟩
theorem KX (e:Int) (b:Bs):(Cy e b).length<=10:=by simp[Cy]
theorem ML {c:Coord} (hm:Bp c=true) (h0:c.state≠0):BR c.parts=true:=by
 have:=D2 hm h0
 unfold DZ at this
 simp only[Bool.and_eq_true]at this
 exact this.2.2.1
theorem RC (F:Fit i) {tid:Int} {yes:Bool} {thn:Int} (hn:(Av i.m tid).parts.Nodup) (hl: ∀q∈(Av i.m tid).parts,q=0\/q=1\/q=2) {q:Int} (hq:q=0\/q=1\/q=2):AR (AX (kOf i tid yes thn) q)/\Srt Opn.pid (AX (kOf i tid yes thn) q).opens/\DO (AX (kOf i tid yes thn) q) 0=false:=by
 have e:AX (kOf i tid yes thn) q=AX (jOf i tid yes thn).i q:=rfl
 rw[e]
 unfold jOf
 rw[Gn _ yes _ _ q hn hl hq]
 have hh:=F.pq hq
 split
 ·have h:=QA (e:=i.tag) (pid:=(Av i.m tid).pid) (yes:=yes) hh.2.1 hh.2.2 hh.1 F.tag hq
  refine⟨h.1,h.2.1,?_⟩
  unfold DO
  rw[List.any_eq_false]
  intro x hx
  have:=(FK (hh.1.ook x (h.2.2.2 x hx)).1).1
  simp;omega
 ·exact⟨hh.2.2,hh.1.osrt,Nk hh.1⟩
structure KOk (K:Image):Prop where
 small:SmallI K
 st:StM K.m
 srt:SrtI K
 may:MayT K.m
 place:PlaceOk K
theorem Kc {c:Coord} {K:Image} (hm:Bp c=true) (hz:AH K 0=[]):Fq c (AH K c.pid)=0:=by
 unfold Fq
 rw[G4,hm]
 rw[if_neg Ac]
 by_cases h:c.state=0/\AH K c.pid≠[]
 ·exfalso
  have hc:c=BD:=by
   unfold Bp at hm
   rw[if_pos h.1]at hm
   exact of_decide_eq_true hm
  have hp:c.pid=0:=by rw[hc];rfl
  rw[hp]at h
  exact h.2 hz
 ·rw[if_neg h]
theorem Zk (F:Fit i) {tid:Int} {yes:Bool} {thn:Int} (h:0<=tid/\tid<3) (hp:Cb (Av i.m tid) yes thn=0) (h2:(Av i.m tid).state=2):KOk (kOf i tid yes thn):=by
 obtain⟨hm,hf,hx⟩:=Jg hp
 obtain⟨hn,hl⟩:=HK (ML hm Aa)
 have hm1:=Lf (c:=Cu (Av i.m tid) yes thn) h F.may (It hm h2 hf hx) Y
 have hc3:Bp (Av (AO i.m tid (Cu (Av i.m tid) yes thn)) tid)=true:=by rw[KI _ h];exact It hm h2 hf hx
 have hs3:(Av (AO i.m tid (Cu (Av i.m tid) yes thn)) tid).state=3\/(Av (AO i.m tid (Cu (Av i.m tid) yes thn)) tid).state=4:=by rw[KI _ h];exact LW ..
 have hm2:=Kk h hm1 hc3 hs3
 have em:(kOf i tid yes thn).m=D4 (AO i.m tid (Cu (Av i.m tid) yes thn)) tid:=rfl
 have q0:=RC F (yes:=yes) (thn:=thn) hn hl (q:=0) Ac
 have q1:=RC F (yes:=yes) (thn:=thn) hn hl (q:=1) Ac
 have q2:=RC F (yes:=yes) (thn:=thn) hn hl (q:=2) Ac
 have hz:AH (kOf i tid yes thn) 0=[]:=by
  have z0:DO (kOf i tid yes thn).p0 0=false:=q0.2.2
  have z1:DO (kOf i tid yes thn).p1 0=false:=q1.2.2
  have z2:DO (kOf i tid yes thn).p2 0=false:=q2.2.2
  unfold AH
  rw[z0,z1,z2];rfl
 have hsm:SmallM (kOf i tid yes thn).m:=by
  rw[em]
  exact SmallM.compl (F.small.m.set tid (c:=Cu (Av i.m tid) yes thn) ⟨(F.small.m.tid tid).parts,(F.small.m.tid tid).pends⟩) tid
 have hmt:MayT (kOf i tid yes thn).m:=by rw[em];exact PP hm2
 refine⟨⟨q0.1,q1.1,q2.1,hsm.t0,hsm.t1,hsm.t2⟩,by rw[em];exact Ki hm2,⟨Fj.1 q0.2.1,Fj.1 q1.2.1,Fj.1 q2.2.1⟩,hmt,⟨Kc hmt.t0 hz,Kc hmt.t1 hz,Kc hmt.t2 hz⟩⟩
theorem Wz (F:Fit i) {tid:Int} {yes:Bool} {thn:Int} (h:0<=tid/\tid<3) (hp:Cb (Av i.m tid) yes thn=0) (h2:(Av i.m tid).state=2):A17 15 [.agg (Ah (A1 i)),.t (.int .i64 tid),.t (.bool yes),.t (.int .i64 thn)] [] (.tuple [.agg (Ah (Di (Lk i tid yes thn))),.t .nilIface]) []:=by
 obtain⟨hm,hf,hx⟩:=Jg hp
 obtain⟨hn,hl⟩:=HK (ML hm Aa)
 have ec:=Alq hp
 have hK:=Zk F h hp h2
 have hm1:=Lf (c:=Cu (Av i.m tid) yes thn) h F.may (It hm h2 hf hx) Y
 have hsm1:SmallM (AO i.m tid (Cu (Av i.m tid) yes thn)):=F.small.m.set tid ⟨(F.small.m.tid tid).parts,(F.small.m.tid tid).pends⟩
 have eJ:(jOf i tid yes thn).i.m=AO i.m tid (Cu (Av i.m tid) yes thn):=(Gp ..).1
 have etJ:(jOf i tid yes thn).i.tag=i.tag:=(Gp ..).2
 have hc3:Bp (Av (AO i.m tid (Cu (Av i.m tid) yes thn)) tid)=true:=by rw[KI _ h];exact It hm h2 hf hx
 have hs3:(Av (AO i.m tid (Cu (Av i.m tid) yes thn)) tid).state=3\/(Av (AO i.m tid (Cu (Av i.m tid) yes thn)) tid).state=4:=by rw[KI _ h];exact LW ..
 exact YT i F.tag F.small tid yes thn h hf hp F.may (by rw[ec];exact hm1) _ Y (by rw[ec];exact Abq F hsm1 (KX ..) hn hl) (jOf i tid yes thn) (by rw[ec];rfl) etJ (by rw[eJ];exact Sk hc3 hs3) (by rw[eJ];exact Ok hc3 Aa) (by rw[eJ];exact hm1) (by rw[eJ];exact Kk h hm1 hc3 hs3) (kOf i tid yes thn) (by rw[eJ];rfl) hK.small hK.place
theorem Z0 (F:Fit i) {tid:Int} {yes:Bool} {thn:Int} (h:0<=tid/\tid<3) (hp:Cb (Av i.m tid) yes thn=0) (h2:(Av i.m tid).state=2):A17 19 [.agg (Ah (A1 i)),.t (.int .i64 tid),.t (.bool yes),.t (.int .i64 thn)] [] (.tuple [.agg (Ah (Di (Lk i tid yes thn))),.t (.int .i64 0)]) []:=by
 obtain⟨hm,hf,hx⟩:=Jg hp
 obtain⟨hn,hl⟩:=HK (ML hm Aa)
 have hK:=Zk F h hp h2
 have hm1:=Lf (c:=Cu (Av i.m tid) yes thn) h F.may (It hm h2 hf hx) Y
 have hsm1:SmallM (AO i.m tid (Cu (Av i.m tid) yes thn)):=F.small.m.set tid ⟨(F.small.m.tid tid).parts,(F.small.m.tid tid).pends⟩
 have eJ:(jOf i tid yes thn).i.m=AO i.m tid (Cu (Av i.m tid) yes thn):=(Gp ..).1
 have etJ:(jOf i tid yes thn).i.tag=i.tag:=(Gp ..).2
 have hc3:Bp (Av (AO i.m tid (Cu (Av i.m tid) yes thn)) tid)=true:=by rw[KI _ h];exact It hm h2 hf hx
 have hs3:(Av (AO i.m tid (Cu (Av i.m tid) yes thn)) tid).state=3\/(Av (AO i.m tid (Cu (Av i.m tid) yes thn)) tid).state=4:=by rw[KI _ h];exact LW ..
 have hm2:=Kk h hm1 hc3 hs3
 have n3:=Ahk i.m F.small.m (Ki F.may) tid yes thn h hf hm h2 Aa F.may (Ki hm1) hm1
 have n4:=Ahj (AO i.m tid (Cu (Av i.m tid) yes thn)) hsm1 (Ki hm1) tid h hc3 hs3 (Ok hc3 Aa) hm1 (Ki hm2) hm2
 rw[<-eJ]at n4
 refine Xr i F.tag F.small tid yes thn h hf _ n3 _ Y (Abq F hsm1 (KX ..) hn hl) (fun k q hk=>?_) (jOf i tid yes thn) Y etJ _ n4 (kOf i tid yes thn) (by rw[eJ];rfl) hK.small hK.st hK.srt hK.may hK.place
 obtain⟨hq,hpp,ht⟩:=XZ (i:=i) (pid:=(Av i.m tid).pid) (yes:=yes) (w:=Cy i.tag (mb3 tid yes thn)) (m:=AO i.m tid (Cu (Av i.m tid) yes thn)) hn hl hk
 exact⟨by rw[hpp];exact Dq.2 (F.pq hq).1,by rw[ht];exact F.tag⟩
end
def Mz:Step:=⟨[],As0⟩
def Ia (i:Image) (tid:Int) (yes:Bool) (thn:Int):Int:=if C8 i=false\/ ¬(0<=tid/\tid<3)then 2 else if Cb (Av i.m tid) yes thn≠0 then Cb (Av i.m tid) yes thn else if(Av i.m tid).state≠2 then 180 else 0
def Ht (i:Image) (tid:Int) (yes:Bool) (thn:Int):Step:=if Ia i tid yes thn≠0 then Mz else Lk i tid yes thn
theorem GL:Sub (AV.agg (Ah Yu.zero)) (AV.agg (Ah (Di Mz))):=by
 refine AA ?_
 (repeat'(first|exact A1x _|exact Ak|exact Ar|exact trivial|refine AA ?_|refine Ap ?_|refine And.intro ?_ ?_))
theorem Aed (i:Image) (hs:SmallI i) (b0:PB i.p0) (b1:PB i.p1) (b2:PB i.p2) (tid:Int) (yes:Bool) (thn:Int):A17 6 [.agg (Ah (A1 i)),.t (.int .i64 tid),.t (.bool yes),.t (.int .i64 thn)] [] (.tuple [.agg (Ah (Di (Ht i tid yes thn))),.t (.int .i64 (Ia i tid yes thn))]) []:=by
 have cc:=G9 i hs
 by_cases hb:C8 i=false\/ ¬(0<=tid/\tid<3)
 ·have e:Ia i tid yes thn=2:=if_pos hb
  have es:Ht i tid yes thn=Mz:=by unfold Ht;rw[e];rfl
  rw[e,es]
  generalize C8 i=C at cc hb
  cases C
  all_goals
   simp only[if_true,if_false,Bool.false_eq_true]at cc
   refine ct0 Ag Tryz.func6 Y false Y Y ?_
   repeat'(first|exact prB|refine stC ?_|refine stU (fun h=>?_) fun h=>?_|refine stN (fun b hb=>?_)|refine stL ?_ (c:=cc)|fail)
   all_goals first
    |exact Ai Y (Ap ⟨GL,A1x _,trivial⟩)
    |(exfalso;simp_all;done)
    |(exfalso;simp_all;omega)
 ·have hc:C8 i=true:=by
   cases h:C8 i with
   |true=>rfl
   |false=>exact absurd (.inl h) hb
  have ht:0<=tid/\tid<3:=Classical.byContradiction fun h=>hb (.inr h)
  have F:=Zz hs b0 b1 b2 hc
  rw[hc,if_pos Y]at cc
  have cp:=SV (Av i.m tid) (hs.m.tid tid) yes thn
  by_cases hp:Cb (Av i.m tid) yes thn=0
  ·rw[hp]at cp
   by_cases h2:(Av i.m tid).state=2
   ·have e:Ia i tid yes thn=0:=by unfold Ia;rw[if_neg hb,if_neg (fun x=>x hp),if_neg (fun x=>x h2)]
    have es:Ht i tid yes thn=Lk i tid yes thn:=by unfold Ht;rw[e];rfl
    rw[e,es]
    have cf:=O2 i hs
    have ce:=Wz F ht hp h2
    rcases BB ht with rfl|rfl|rfl
    all_goals
     simp only[Av,Int.reduceEq,if_true,if_false]at h2
     refine ct0 Ag Tryz.func6 Y false Y Y ?_
     repeat'(first|exact prB|refine stC ?_|refine stU (fun h=>?_) fun h=>?_|refine stN (fun b hb=>?_)|refine stL ?_ (c:=cc)|refine stL ?_ (c:=cp)|refine stL ?_ (c:=cf)|refine stL ?_ (c:=ce)|fail)
     all_goals first
      |(exfalso;omega)
      |(exfalso;simp_all;done)
      |exact Ai Y (A1y Y)
   ·have e:Ia i tid yes thn=180:=by unfold Ia;rw[if_neg hb,if_neg (fun x=>x hp),if_pos h2]
    have es:Ht i tid yes thn=Mz:=by unfold Ht;rw[e];rfl
    rw[e,es]
    rcases BB ht with rfl|rfl|rfl
    all_goals
     simp only[Av,Int.reduceEq,if_true,if_false]at h2
     refine ct0 Ag Tryz.func6 Y false Y Y ?_
     repeat'(first|exact prB|refine stC ?_|refine stU (fun h=>?_) fun h=>?_|refine stN (fun b hb=>?_)|refine stL ?_ (c:=cc)|refine stL ?_ (c:=cp)|fail)
     all_goals first
      |(exfalso;omega)
      |(exfalso;simp_all;done)
      |exact Ai Y (Ap ⟨GL,A1x _,trivial⟩)
  ·have e:Ia i tid yes thn=Cb (Av i.m tid) yes thn:=by unfold Ia;rw[if_neg hb,if_pos hp]
   have es:Ht i tid yes thn=Mz:=by unfold Ht;rw[e,if_pos hp]
   rw[e,es]
   generalize Cb (Av i.m tid) yes thn=pe at cp hp⊢
   rcases BB ht with rfl|rfl|rfl
   all_goals
    refine ct0 Ag Tryz.func6 Y false Y Y ?_
    repeat'(first|exact prB|refine stC ?_|refine stU (fun h=>?_) fun h=>?_|refine stN (fun b hb=>?_)|refine stL ?_ (c:=cc)|refine stL ?_ (c:=cp)|fail)
    all_goals first
     |(exfalso;omega)
     |(exfalso;simp_all;done)
     |exact Ai Y (Ap ⟨GL,A1x _,trivial⟩)
theorem Vn (i:Image) (hs:SmallI i) (hst:StM i.m) (b0:PB i.p0) (b1:PB i.p1) (b2:PB i.p2) (tid:Int) (yes:Bool) (thn:Int):A17 7 [.agg (Ah (A1 i)),.t (.int .i64 tid),.t (.bool yes),.t (.int .i64 thn)] [] (.tuple [.agg (Ah (Di (Ht i tid yes thn))),.t (.int .i64 (Ia i tid yes thn))]) []:=by
 have cc:=ZI i hs hst
 by_cases hb:C8 i=false\/ ¬(0<=tid/\tid<3)
 ·have e:Ia i tid yes thn=2:=if_pos hb
  have es:Ht i tid yes thn=Mz:=by unfold Ht;rw[e];rfl
  rw[e,es]
  generalize C8 i=C at cc hb
  cases C
  all_goals
   simp only[if_true,if_false,Bool.false_eq_true]at cc
   refine ct0 Ag Tryz.func7 Y false Y Y ?_
   repeat'(first|exact prB|refine stC ?_|refine stU (fun h=>?_) fun h=>?_|refine stN (fun b hb=>?_)|refine stL ?_ (c:=cc)|fail)
   all_goals first
    |exact Ai Y (Ap ⟨GL,A1x _,trivial⟩)
    |(exfalso;simp_all;done)
    |(exfalso;simp_all;omega)
 ·have hc:C8 i=true:=by
   cases h:C8 i with
   |true=>rfl
   |false=>exact absurd (.inl h) hb
  have ht:0<=tid/\tid<3:=Classical.byContradiction fun h=>hb (.inr h)
  have F:=Zz hs b0 b1 b2 hc
  rw[hc,if_pos Y]at cc
  have hmt:=(PP F.may).tid tid
  by_cases h2:(Av i.m tid).state=2
  ·have ep:=Ada (yes:=yes) (thn:=thn) hmt h2
   have hep:=(DY (D2 hmt Aa)).2.1
   by_cases hp:Cb (Av i.m tid) yes thn=0
   ·have e:Ia i tid yes thn=0:=by unfold Ia;rw[if_neg hb,if_neg (fun x=>x hp),if_neg (fun x=>x h2)]
    have es:Ht i tid yes thn=Lk i tid yes thn:=by unfold Ht;rw[e];rfl
    rw[e,es]
    have ce:=Z0 F ht hp h2
    obtain⟨_,hf,hx⟩:=Jg hp
    have hy:yes=true-> ¬0<thn:=fun h=>by have:=hf.2 h;omega
    rcases BB ht with rfl|rfl|rfl
    all_goals
     simp only[Av,Int.reduceEq,if_true,if_false]at h2 hx hep
     refine ct0 Ag Tryz.func7 Y false Y Y ?_
     repeat'(first|exact prB|refine stC ?_|refine stU (fun h=>?_) fun h=>?_|refine stN (fun b hb=>?_)|refine stL ?_ (c:=cc)|refine stL ?_ (c:=ce)|fail)
     all_goals first
      |(exfalso;omega)
      |(exfalso;simp_all;done)
      |(exfalso;simp_all;omega)
      |exact Ai Y (A1y Y)
   ·have e:Ia i tid yes thn=Cb (Av i.m tid) yes thn:=by unfold Ia;rw[if_neg hb,if_pos hp]
    have es:Ht i tid yes thn=Mz:=by unfold Ht;rw[e,if_pos hp]
    rw[e,es,ep]
    rw[ep]at hp
    rcases BB ht with rfl|rfl|rfl
    all_goals
     simp only[Av,Int.reduceEq,if_true,if_false]at h2 hp hep⊢
     refine ct0 Ag Tryz.func7 Y false Y Y ?_
     repeat'(first|exact prB|refine stC ?_|refine stU (fun h=>?_) fun h=>?_|refine stN (fun b hb=>?_)|refine stL ?_ (c:=cc)|fail)
     all_goals first
      |(exfalso;omega)
      |(exfalso;simp_all;done)
      |(exfalso;simp_all;omega)
      |(refine Ai Y (Ap ⟨GL,A1y ?_,trivial⟩);(repeat' split)
        all_goals first|rfl|(exfalso;simp_all;done)|(exfalso;simp_all;omega))
  ·have key:Ia i tid yes thn=if ¬((0<=thn/\thn<=20)/\(yes=true->thn=0))then 2 else if(0<thn/\(Av i.m tid).epoch=100)/\((Av i.m tid).state≠3/\(Av i.m tid).state≠4/\(Av i.m tid).state≠0)then 102 else 180:=by
    have hst1:=PQ hmt
    have hr:(Av i.m tid).state≠0->(Av i.m tid).epoch<=100:=fun h=>(DY (D2 hmt h)).2.1.2
    unfold Ia
    rw[if_neg hb]
    by_cases hf:(0<=thn/\thn<=20)/\(yes=true->thn=0)
    ·conv=>rhs;rw[if_neg (fun x=>x hf)]
     have hstates:(Av i.m tid).state=0\/(Av i.m tid).state=1\/(Av i.m tid).state=3\/(Av i.m tid).state=4\/(Av i.m tid).state=5\/(Av i.m tid).state=6:=by
      have hm':=hmt
      unfold Bp at hm'
      repeat' split at hm'
      all_goals first|(cases hm';done)|omega
     unfold Cb Fw
     rw[decide_eq_true hf,hmt]
     simp only[Bool.true_eq_false,or_self,if_false]
     generalize(Av i.m tid).state=st at h2 hr hstates⊢
     generalize(Av i.m tid).epoch=ep at hr⊢
     rcases hstates with rfl|rfl|rfl|rfl|rfl|rfl
     all_goals simp[CY]
     all_goals first
      |done
      |(repeat' split
        all_goals first|rfl|omega|(exfalso;omega))
    ·conv=>rhs;rw[if_pos hf]
     unfold Cb Fw
     rw[decide_eq_false hf]
     simp
   have kz:Ia i tid yes thn≠0:=by rw[key];(repeat' split)<;>decide
   have es:Ht i tid yes thn=Mz:=by unfold Ht;rw[if_pos kz]
   rw[es,key]
   rcases BB ht with rfl|rfl|rfl
   all_goals
    simp only[Av,Int.reduceEq,if_true,if_false]at h2⊢
    refine ct0 Ag Tryz.func7 Y false Y Y ?_
    repeat'(first|exact prB|refine stC ?_|refine stU (fun h=>?_) fun h=>?_|refine stN (fun b hb=>?_)|refine stL ?_ (c:=cc)|fail)
    all_goals first
     |(exfalso;omega)
     |(exfalso;simp_all;done)
     |(refine Ai Y (Ap ⟨GL,A1y ?_,trivial⟩);(repeat' split)
       all_goals first|rfl|(exfalso;simp_all;done)|(exfalso;simp_all;omega))
theorem Mj (p:Part):CtF Tryz.prog 9 [.agg (Ah (AD p))] [] (fun x:Bool=>x=false->AR p/\PB p) (fun x=>.t (.bool x)) (fun _=>[]):=by
 have hr1:(p.rows.map A8).length=p.rows.length:=List.length_map ..
 have ho1:(p.opens.map As).length=p.opens.length:=List.length_map ..
 refine ctF Ag Tryz.func9 Y Y ?_
 repeat'(first|exact prB|refine stC ?_|refine stU (fun h=>?_) fun h=>?_|refine stN (fun b hb=>?_)|refine stE 6 14 ?_|refine HD Ag [] [] Y Y Y Y Y (Zx p.prods) Y (fun _ _=>rfl) (fun _ _=>rfl) (fun _ _=>rfl) (fun g hg=>?_)|fail)
 all_goals try exact E7 true (fun hx=>by cases hx) [1] rfl rfl rfl (A1x _)
 all_goals try(exfalso;omega)
 refine A3 (ι:=Nat) (fun i=>i<=p.rows.length) (fun i=>[(1,.ref 2 0),(3,.t (.int .i64 i))]) (fun _=>[(2,.cells (Ah (AD p)))]) (fun i=>p.rows.length-i) 0 Ac ?_ ?_
 ·exact AE [] (Af Y Y (Af Y Y Aj)) Y
 rintro i hi
 by_cases hlt:i<p.rows.length
 ·have hr:p.rows[i]?=some p.rows[i]:=List.getElem?_eq_getElem hlt
  generalize p.rows[i]=r at hr
  repeat'(first|exact prB|refine stC ?_|refine stU (fun h=>?_) fun h=>?_|refine stN (fun b hb=>?_)|refine stE 6 14 ?_|fail)
  all_goals first
   |(exfalso;omega)
   |exact E7 true (fun hx=>by cases hx) [1] rfl rfl rfl (A1x _)
   |(refine Ay (i+1) hlt Aa [] (Af Y Y (Af Y (by rw[An Aa Aa];rfl) Aj)) Y)
 repeat'(first|exact prB|refine stC ?_|refine stU (fun h=>?_) fun h=>?_|refine stN (fun b hb=>?_)|refine stE 6 14 ?_|fail)
 all_goals try(exfalso;omega)
 refine A3 (ι:=Nat) (fun i=>i<=p.opens.length/\ ∀o∈p.opens.take i,o.batches.length<=20/\ ∀b∈o.batches,b.recs.length<=60) (fun i=>[(1,.ref 2 0),(4,.t (.int .i64 i))]) (fun _=>[(2,.cells (Ah (AD p)))]) (fun i=>p.opens.length-i) 0 ⟨by simp,by simp⟩ ?_ ?_
 ·exact AE [] (Af Y Y (Af Y Y Aj)) Y
 rintro i ⟨hi,hall⟩
 by_cases hlt:i<p.opens.length
 ·have hr:p.opens[i]?=some p.opens[i]:=List.getElem?_eq_getElem hlt
  generalize p.opens[i]=o at hr
  have hb1:(o.batches.map Au).length=o.batches.length:=List.length_map ..
  repeat'(first|exact prB|refine stC ?_|refine stU (fun h=>?_) fun h=>?_|refine stN (fun b hb=>?_)|refine stE 6 14 ?_|fail)
  all_goals try exact E7 true (fun hx=>by cases hx) [1] rfl rfl rfl (A1x _)
  all_goals try(exfalso;omega)
  refine A3 (ι:=Nat) (fun k=>k<=o.batches.length/\ ∀b∈o.batches.take k,b.recs.length<=60) (fun k=>[(1,.ref 2 0),(4,.t (.int .i64 i)),(5,.t (.int .i64 k))]) (fun _=>[(2,.cells (Ah (AD p)))]) (fun k=>o.batches.length-k) 0 ⟨by simp,by simp⟩ ?_ ?_
  ·exact AE [] (Af Y Y (Af Y Y (Af Y Y Aj))) Y
  rintro k ⟨hk,hbs⟩
  by_cases hkt:k<o.batches.length
  ·have hrk:o.batches[k]?=some o.batches[k]:=List.getElem?_eq_getElem hkt
   generalize o.batches[k]=b at hrk
   repeat'(first|exact prB|refine stC ?_|refine stU (fun h=>?_) fun h=>?_|refine stN (fun b hb=>?_)|refine stE 6 14 ?_|refine HD Ag [] [] Y Y Y Y Y (Ad7 b) Y (fun _ _=>rfl) (fun _ _=>rfl) (fun _ _=>rfl) (fun g6 hg6=>?_)|fail)
   all_goals first
    |(exfalso;omega)
    |exact E7 true (fun hx=>by cases hx) [1] rfl rfl rfl (A1x _)
    |(refine Ay (k+1) ⟨hkt,fun c hc=>?_⟩ Aa [] (Af Y Y (Af Y Y (Af Y (by rw[An Aa Aa];rfl) Aj))) Y
      rw[A5 hrk,List.mem_append,List.mem_singleton]at hc
      rcases hc with hc|rfl
      ·exact hbs c hc
      ·exact hg6 (Bool.eq_false_iff.2 Ad))
  ·rw[List.take_of_length_le Aa]at hbs
   repeat'(first|exact prB|refine stC ?_|refine stU (fun h=>?_) fun h=>?_|refine stN (fun b hb=>?_)|refine stE 6 14 ?_|fail)
   all_goals first
    |(exfalso;omega)
    |(refine Ay (i+1) ⟨hlt,fun c hc=>?_⟩ Aa [] (Af Y Y (Af Y (by rw[An Aa Aa];rfl) Aj)) Y
      rw[A5 hr,List.mem_append,List.mem_singleton]at hc
      rcases hc with hc|rfl
      ·exact hall c hc
      ·exact⟨by omega,hbs⟩)
 ·rw[List.take_of_length_le Aa]at hall
  repeat'(first|exact prB|refine stC ?_|refine stU (fun h=>?_) fun h=>?_|refine stN (fun b hb=>?_)|refine stE 6 14 ?_|fail)
  all_goals first
   |(exfalso;omega)
   |(refine E7 _ (fun _=>?_) [1] Y Y Y (A1x _)
     have hg':=hg (Bool.eq_false_iff.2 Ad)
     exact⟨⟨by omega,by omega,fun o ho=>⟨by have:=(hall o ho).1;omega,fun b hb=>by have:=(hall o ho).2 b hb;omega⟩,by omega,fun q hq=>by have:=hg'.2 q hq;omega⟩,by omega,by omega⟩)
theorem Jq {c:Coord} (h:Hp c=false):SmallC c:=by
 unfold Hp at h
 have:=of_decide_eq_false h
 constructor<;>omega
theorem Zv (i:Image):CtF Tryz.prog 4 [.agg (Ah (A1 i))] [] (fun x:Bool=>x=false->SmallI i/\PB i.p0/\PB i.p1/\PB i.p2) (fun x=>.t (.bool x)) (fun _=>[]):=by
 have cm:=Zw i.m
 have hw0:IntKind.i64.wrap (0+1)=1:=by decide+kernel
 have hw1:IntKind.i64.wrap (1+1)=2:=by decide+kernel
 have hw2:IntKind.i64.wrap (2+1)=3:=by decide+kernel
 refine ctF Ag Tryz.func4 Y Y ?_
 repeat'(first|exact prB|rw[hw0]|rw[hw1]|rw[hw2]|refine stC ?_|refine stU (fun h=>?_) fun h=>?_|refine stN (fun b hb=>?_)|refine stL ?_ (c:=cm)|refine HD Ag [] [] Y Y Y Y Y (Mj i.p0) Y (fun _ _=>rfl) (fun _ _=>rfl) (fun _ _=>rfl) (fun g0 hg0=>?_)|refine HD Ag [] [] Y Y Y Y Y (Mj i.p1) Y (fun _ _=>rfl) (fun _ _=>rfl) (fun _ _=>rfl) (fun g1 hg1=>?_)|refine HD Ag [] [] Y Y Y Y Y (Mj i.p2) Y (fun _ _=>rfl) (fun _ _=>rfl) (fun _ _=>rfl) (fun g2 hg2=>?_)|refine AN 5 ?_|refine AQ ?_|fail)
 all_goals first
  |exact E7 true (fun hx=>by cases hx) [1] rfl rfl rfl (A1x _)
  |(refine E7 _ (fun hx=>?_) [1] Y Y Y (A1x _)
    simp only[Bool.or_eq_false_iff]at hx
    obtain⟨x0,x1,x2⟩:=hx
    have h0:=hg0 (Bool.eq_false_iff.2 Ad)
    have h1:=hg1 (Bool.eq_false_iff.2 Ad)
    have h2:=hg2 (Bool.eq_false_iff.2 Ad)
    exact⟨⟨h0.1,h1.1,h2.1,Jq x0,Jq x1,Jq x2⟩,h0.2,h1.2,h2.2⟩)
theorem U8:AR CS:=⟨by simp[CS],by simp[CS],by simp[CS],by simp[CS],by simp[CS]⟩
theorem Z2 {i:Image} (hs:SmallI i) (b0:PB i.p0) (b1:PB i.p1) (b2:PB i.p2) (tid:Int) (yes:Bool) (thn:Int):SmallI (Ht i tid yes thn).i/\(Ht i tid yes thn).w.length<=1000000:=by
 unfold Ht
 by_cases h:Ia i tid yes thn≠0
 ·rw[if_pos h]
  refine⟨⟨U8,U8,U8,CZ,CZ,CZ⟩,by simp[Mz]⟩
 ·rw[if_neg h]
  have h:=Classical.not_not.1 h
  unfold Ia at h
  split at h
  ·cases h
  rename_i hb
  split at h
  ·rename_i hx;exact absurd h hx
  rename_i hp
  have hp:=Classical.not_not.1 hp
  split at h
  ·cases h
  rename_i h2
  have h2:=Classical.not_not.1 h2
  have hc:C8 i=true:=by
   cases h:C8 i with
   |true=>rfl
   |false=>exact absurd (.inl h) hb
  have ht:0<=tid/\tid<3:=Classical.byContradiction fun h=>hb (.inr h)
  have F:=Zz hs b0 b1 b2 hc
  have hK:=Zk F ht hp h2
  have hm:=(PP F.may).tid tid
  obtain⟨hn,hl⟩:=HK (ML hm Aa)
  have h3:=Ahe hn hl
  have hl0: ∀pid,(AH (kOf i tid yes thn) pid).length<=1000000:=fun pid=>by have:=Ck (kOf i tid yes thn) pid;omega
  refine⟨⟨hK.small.p0,hK.small.p1,hK.small.p2,IX hK.small.t0 _ (hl0 _),IX hK.small.t1 _ (hl0 _),IX hK.small.t2 _ (hl0 _)⟩,?_⟩
  have hw:=Arj F (pid:=(Av i.m tid).pid) (yes:=yes) (w:=Cy i.tag (mb3 tid yes thn)) (m:=AO i.m tid (Cu (Av i.m tid) yes thn)) (KX ..) hn hl _ (Nat.le_refl _)
  rw[List.take_of_length_le (Nat.le_refl _)]at hw
  have hw2:(jOf i tid yes thn).w.length<=10+20*(Av i.m tid).parts.length:=hw
  have:=KX i.tag (mb4 tid)
  unfold Lk
  simp only[List.length_append]
  omega
theorem UW (hw:A17 5 [] [] (.t (.bool true)) []) (i:Image) (hst:StM i.m) (tid:Int) (yes:Bool) (thn:Int):A17 3 [.agg (Ah (A1 i)),.t (.int .i64 tid),.t (.bool yes),.t (.int .i64 thn)] [] (.t (.bool true)) []:=by
 refine ct0 Ag Tryz.func3 Y false Y Y ?_
 repeat'(first|exact prB|refine stC ?_|refine stU (fun h=>?_) fun h=>?_|refine stN (fun b hb=>?_)|refine HD Ag [] [] Y Y Y Y Y (Zv i) Y (fun _ _=>rfl) (fun _ _=>rfl) (fun _ _=>rfl) (fun g hg=>?_)|refine stL ?_ (c:=hw)|fail)
 all_goals try exact Ai Y (A1y Y)
 have e1:g=false:=Bool.eq_false_iff.2 Ad
 obtain⟨hs,b0,b1,b2⟩:=hg e1
 have ca:=Aed i hs b0 b1 b2 tid yes thn
 have cb:=Vn i hs hst b0 b1 b2 tid yes thn
 obtain⟨f1,f2⟩:=Z2 hs b0 b1 b2 tid yes thn
 have cs:=QM (Ht i tid yes thn) f1 f2
 generalize Ht i tid yes thn=S at ca cb cs
 generalize Ia i tid yes thn=E at ca cb
 repeat'(first|exact prB|refine stC ?_|refine stU (fun h=>?_) fun h=>?_|refine stN (fun b hb=>?_)|refine stL ?_ (c:=ca)|refine stL ?_ (c:=cb)|refine BG Ag Y Y Y Y (cs) Y Y Y ⟨Ar,Ar,trivial⟩ ?_|refine stL ?_ (c:=hw)|fail)
 all_goals first
  |exact Ai Y (A1y Y)
  |(exfalso;simp_all;done)
end Go.Proofs.YtmohpcgmdheafaaGreatDoor
