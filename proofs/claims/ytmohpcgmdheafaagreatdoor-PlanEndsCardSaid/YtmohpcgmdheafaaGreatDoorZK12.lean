/- Contracts and laws, joined: Nf, Ng. No condition beside those that each theorem names. -/
import Derived.Test.YtmohpcgmdheafaaGreatDoorZK10
import Derived.Test.YtmohpcgmdheafaaGreatDoorZSd
set_option linter.unusedVariables false
set_option linter.unusedSimpArgs false
set_option maxRecDepth 100000
set_option maxHeartbeats 8000000
namespace Go.Proofs.YtmohpcgmdheafaaGreatDoor
open Go.Am
attribute [local irreducible] Decidable.decide Tr A2 hSK hSW
def WW (n:Int) (l:List Prod) (i:Nat):Prop:=EI 0 l=EI n (l.drop i)
theorem Adx (l:List Prod) (hl:l.length<=1000000):A17 91 [.t (.slice .any 4 (l.map Al))] [] (.t (.bool (Ef l))) []:=by
 have hlm:(l.map Al).length=l.length:=List.length_map ..
 unfold Ef
 refine ct0 Ag Tryz.func91 Y false Y Y ?_
 repeat'(first|exact prB|refine stB ?_|refine stU (fun h=>?_) fun h=>?_|refine stN (fun b hb=>?_)|fail)
 refine A3 (ι:=Nat×Int) (fun x=>x.1<=l.length/\WW x.2 l x.1) (fun x=>[(0,.t (.slice .any 4 (l.map Al))),(3,.t (.int .i64 x.2)),(4,.t (.int .i64 x.1))]) (fun _=>[]) (fun x=>l.length-x.1) (0,0) ⟨by simp,Y⟩ ?_ ?_
 ·exact AE [] (Af Y Y (Af Y Y (Af Y Y Aj))) Y
 rintro⟨i,n⟩ ⟨hi,hn⟩
 simp only at hi hn
 unfold WW at hn
 rw[hn]
 by_cases hlt:i<l.length
 ·have hr:l[i]?=some l[i]:=List.getElem?_eq_getElem hlt
  rw[List.drop_eq_getElem_cons hlt]at hn⊢
  generalize l[i]=r at hr hn⊢
  have ck:=TB r
  simp only[EI]at hn⊢
  cases hk:C1 r with
  |false=>
   rw[hk]at ck
   simp only[Bool.and_false,Bool.false_and]
   repeat'(first|exact prB|refine stC ?_|refine stU (fun h=>?_) fun h=>?_|refine stN (fun b hb=>?_)|refine stL ?_ (c:=ck)|fail)
   all_goals first
    |exact Ai Y (A1y Y)
  |true=>
   rw[hk]at ck hn
   by_cases hp:n<r.pid
   ·rw[decide_eq_true hp]at hn⊢
    simp only[Bool.true_and]at hn⊢
    repeat'(first|exact prB|refine stC ?_|refine stU (fun h=>?_) fun h=>?_|refine stN (fun b hb=>?_)|refine stL ?_ (c:=ck)|fail)
    all_goals first
     |(exfalso;omega)
     |exact⟨(i+1,r.pid),⟨hlt,hn⟩,(show l.length-(i+1)<l.length-i by omega),[],(Af Y Y (Af Y Y (Af Y (by rw[An Aa Aa];rfl) Aj))),Y⟩
   ·rw[decide_eq_false hp]
    simp only[Bool.false_and]
    repeat'(first|exact prB|refine stC ?_|refine stU (fun h=>?_) fun h=>?_|refine stN (fun b hb=>?_)|refine stL ?_ (c:=ck)|fail)
    all_goals first
     |(exfalso;omega)
     |exact Ai Y (A1y Y)
 ·rw[List.drop_eq_nil_of_le Aa]
  repeat'(first|exact prB|refine stC ?_|refine stU (fun h=>?_) fun h=>?_|refine stN (fun b hb=>?_)|fail)
  all_goals first
   |(exfalso;omega)
   |exact Ai Y (A1y Y)
theorem KA {α:Type} {l:List α} {f:α->Bool} {k:Nat} {x:α} (h:l[k]?=some x) (hf:f x=false):l.all f=false:=by
 cases hq:l.all f with
 |false=>rfl
 |true=>rw[List.all_eq_true.1 hq x (List.mem_of_getElem? h)]at hf;cases hf
theorem J4 {α:Type} {l:List α} {f:α->Bool} {k:Nat} {x:α} (h:l[k]?=some x) (ha:(l.take k).all f=true) (hf:f x=true):(l.take (k+1)).all f=true:=by
 rw[A5 h,List.all_append,ha];simp[hf]
theorem NF {α:Type} {l:List α} {f:α->Bool} {k:Nat} {x:α} (h:l[k]?=some x) (hf:f x=true):l.any f=true:=List.any_eq_true.2 ⟨x,List.mem_of_getElem? h,hf⟩
theorem K9 {α:Type} {l:List α} {f:α->Bool} {k:Nat} {x:α} (h:l[k]?=some x) (ha:(l.take k).any f=false) (hf:f x=false):(l.take (k+1)).any f=false:=by
 rw[A5 h,List.any_append,ha];simp[hf]
theorem XM (p:Part) (hl:p.rows.length<=1000000) (ho:p.opens.length<=1000000):A17 90 [.agg (Ah (AD p))] [] (.t (.int .i64 (if DR p=true then 0 else 2))) []:=by
 have hlm:(p.rows.map A8).length=p.rows.length:=List.length_map ..
 have hlo:(p.opens.map As).length=p.opens.length:=List.length_map ..
 refine ct0 Ag Tryz.func90 Y false Y Y ?_
 by_cases hb:0<=p.start/\p.start<=p.fin/\p.fin<=1048576
 ·have er:DR p=(Dv Row.offset p.rows&&(p.rows.all (JW p)&&(Dv Opn.pid p.opens&& !p.opens.any (fun o=>o.batches.isEmpty)))):=by
   unfold DR;rw[decide_eq_true hb,Bool.true_and]
  rw[er]
  repeat'(first|exact prB|refine stB ?_|refine stU (fun h=>?_) fun h=>?_|refine stN (fun b hb=>?_)|refine stE 12 25 ?_|fail)
  all_goals try(exfalso;omega)
  refine A3 (ι:=Nat) (fun i=>i<=p.rows.length/\Dv Row.offset (p.rows.take i)=true/\(p.rows.take i).all (JW p)=true) (fun i=>[(1,.ref 2 0),(3,.t (.int .i64 i))]) (fun i=>[(2,.cells (Ah (AD p)))]) (fun i=>p.rows.length-i) 0 ⟨by omega,by simp[Dv],by simp⟩ ?_ ?_
  ·exact AE [] (Af Y Y (Af Y Y Aj)) Y
  rintro i ⟨hi,hri,hin⟩
  by_cases hlt:i<p.rows.length
  ·have hr:p.rows[i]?=some p.rows[i]:=List.getElem?_eq_getElem hlt
   generalize p.rows[i]=r at hr
   by_cases hrin:JW p r=true
   ·have hrb:=hrin
    simp only[JW,decide_eq_true_eq]at hrb
    rcases i with _|j
    ·repeat'(first|exact prB|refine stB ?_|refine stU (fun h=>?_) fun h=>?_|refine stN (fun b hb=>?_)|refine stE 12 25 ?_|fail)
     all_goals first
      |(exfalso;omega)
      |(refine Ay 1 ⟨hlt,KO _ _ (by simp;omega),J4 hr hin hrin⟩ Aa [] (Af Y Y (Af Y (by rw[An Aa Aa];rfl) Aj)) Y)
    ·have hr1:p.rows[j]?=some (p.rows[j]' Aa):=List.getElem?_eq_getElem _
     generalize p.rows[j]' Aa=r1 at hr1
     have hw:IntKind.i64.wrap (((j+1:Nat):Int)-1)=((j:Nat):Int):=by rw[An Aa Aa];omega
     by_cases hoo:r1.offset<r.offset
     ·repeat'(first|exact prB|refine stB ?_|refine stU (fun h=>?_) fun h=>?_|refine stN (fun b hb=>?_)|refine stE 12 25 ?_|fail)
      all_goals first
       |(exfalso;omega)
       |(refine Ay (j+1+1) ⟨hlt,Jc hr (by simpa using hr1) Aa hoo hri,J4 hr hin hrin⟩ Aa [] (Af Y Y (Af Y (by rw[An Aa Aa];rfl) Aj)) Y)
     ·have hno:Dv Row.offset p.rows=false:=KP hr (by simpa using hr1) Aa Aa
      rw[hno]
      repeat'(first|exact prB|refine stB ?_|refine stU (fun h=>?_) fun h=>?_|refine stN (fun b hb=>?_)|refine stE 12 25 ?_|fail)
      all_goals first
       |(exfalso;omega)
       |(refine Ca (Ai Y (A1y Ac)))
   ·have hrin':JW p r=false:=by simpa using hrin
    have hrb:=hrin'
    simp only[JW,decide_eq_false_iff_not]at hrb
    have hno:=KA hr hrin'
    rw[hno,Bool.false_and,Bool.and_false]
    rcases i with _|j
    ·repeat'(first|exact prB|refine stB ?_|refine stU (fun h=>?_) fun h=>?_|refine stN (fun b hb=>?_)|refine stE 12 25 ?_|fail)
     all_goals first
      |(exfalso;omega)
      |(refine Ca (Ai Y (A1y Y)))
    ·have hr1:p.rows[j]?=some (p.rows[j]' Aa):=List.getElem?_eq_getElem _
     generalize p.rows[j]' Aa=r1 at hr1
     have hw:IntKind.i64.wrap (((j+1:Nat):Int)-1)=((j:Nat):Int):=by rw[An Aa Aa];omega
     repeat'(first|exact prB|refine stB ?_|refine stU (fun h=>?_) fun h=>?_|refine stN (fun b hb=>?_)|refine stE 12 25 ?_|fail)
     all_goals first
      |(exfalso;omega)
      |(refine Ca (Ai Y (A1y Y)))
  ·rw[List.take_of_length_le Aa]at hri hin
   rw[hri,hin,Bool.true_and,Bool.true_and]
   repeat'(first|exact prB|refine stB ?_|refine stU (fun h=>?_) fun h=>?_|refine stN (fun b hb=>?_)|refine stE 12 25 ?_|fail)
   all_goals try(exfalso;omega)
   refine A3 (ι:=Nat) (fun i=>i<=p.opens.length/\Dv Opn.pid (p.opens.take i)=true/\(p.opens.take i).any (fun o=>o.batches.isEmpty)=false) (fun i=>[(1,.ref 2 0),(5,.t (.int .i64 i))]) (fun i=>[(2,.cells (Ah (AD p)))]) (fun i=>p.opens.length-i) 0 ⟨by omega,by simp[Dv],by simp⟩ ?_ ?_
   ·exact AE [] (Af Y Y (Af Y Y Aj)) Y
   rintro i ⟨hi,hri,hin⟩
   by_cases hlt:i<p.opens.length
   ·have hr:p.opens[i]?=some p.opens[i]:=List.getElem?_eq_getElem hlt
    generalize p.opens[i]=o at hr
    have hlb:(o.batches.map Au).length=o.batches.length:=List.length_map ..
    by_cases he:o.batches.length=0
    ·have he':o.batches.isEmpty=true:=by cases hh:o.batches with|nil=>rfl|cons a r=>rw[hh]at he;simp at he
     rw[NF (f:=fun o:Opn=>o.batches.isEmpty) hr he',Bool.not_true,Bool.and_false]
     rcases i with _|j
     ·repeat'(first|exact prB|refine stC ?_|refine stU (fun h=>?_) fun h=>?_|refine stN (fun b hb=>?_)|refine stE 12 25 ?_|fail)
      all_goals first
       |(exfalso;omega)
       |exact Ai Y (A1y Y)
     ·have hr1:p.opens[j]?=some (p.opens[j]' Aa):=List.getElem?_eq_getElem _
      generalize p.opens[j]' Aa=r1 at hr1
      have hw:IntKind.i64.wrap (((j+1:Nat):Int)-1)=((j:Nat):Int):=by rw[An Aa Aa];omega
      repeat'(first|exact prB|refine stC ?_|refine stU (fun h=>?_) fun h=>?_|refine stN (fun b hb=>?_)|refine stE 12 25 ?_|fail)
      all_goals first
       |(exfalso;omega)
       |exact Ai Y (A1y Y)
    ·have he':o.batches.isEmpty=false:=by cases hh:o.batches with|nil=>rw[hh]at he;simp at he|cons a r=>rfl
     rcases i with _|j
     ·repeat'(first|exact prB|refine stC ?_|refine stU (fun h=>?_) fun h=>?_|refine stN (fun b hb=>?_)|refine stE 12 25 ?_|fail)
      all_goals first
       |(exfalso;omega)
       |(refine Ay 1 ⟨hlt,KO _ _ (by simp;omega),K9 (f:=fun o:Opn=>o.batches.isEmpty) hr hin he'⟩ Aa [] (Af Y Y (Af Y (by rw[An Aa Aa];rfl) Aj)) Y)
     ·have hr1:p.opens[j]?=some (p.opens[j]' Aa):=List.getElem?_eq_getElem _
      generalize p.opens[j]' Aa=r1 at hr1
      have hw:IntKind.i64.wrap (((j+1:Nat):Int)-1)=((j:Nat):Int):=by rw[An Aa Aa];omega
      by_cases hoo:r1.pid<o.pid
      ·repeat'(first|exact prB|refine stC ?_|refine stU (fun h=>?_) fun h=>?_|refine stN (fun b hb=>?_)|refine stE 12 25 ?_|fail)
       all_goals first
        |(exfalso;omega)
        |(refine Ay (j+1+1) ⟨hlt,Jc hr (by simpa using hr1) Aa hoo hri,K9 (f:=fun o:Opn=>o.batches.isEmpty) hr hin he'⟩ Aa [] (Af Y Y (Af Y (by rw[An Aa Aa];rfl) Aj)) Y)
      ·have hno:Dv Opn.pid p.opens=false:=KP hr (by simpa using hr1) Aa Aa
       rw[hno]
       repeat'(first|exact prB|refine stC ?_|refine stU (fun h=>?_) fun h=>?_|refine stN (fun b hb=>?_)|refine stE 12 25 ?_|fail)
       all_goals first
        |(exfalso;omega)
        |exact Ai Y (A1y Ac)
   ·rw[List.take_of_length_le Aa]at hri hin
    rw[hri,hin]
    repeat'(first|exact prB|refine stC ?_|refine stU (fun h=>?_) fun h=>?_|refine stN (fun b hb=>?_)|refine stE 12 25 ?_|fail)
    all_goals first
     |(exfalso;omega)
     |exact Ai Y (A1y Y)
 ·have er:DR p=false:=by unfold DR;rw[decide_eq_false hb,Bool.false_and]
  rw[er]
  repeat'(first|exact prB|refine stC ?_|refine stU (fun h=>?_) fun h=>?_|refine stN (fun b hb=>?_)|refine stE 12 25 ?_|fail)
  all_goals first
   |exact Ai Y (A1y Y)
   |(exfalso;omega)
theorem Sub.tr {x y z:AV} (h1:Sub x y) (h2:Sub y z):Sub x z:=fun w g v h=>h2 w g v (h1 w g v h)
def Adk (l:List Batch):Nat->Int
 |0=>IA l
 |k+1=>(l[k]?.map DK).getD 0
theorem R2 (o:Opn) (hs:o.batches.length<=1000000):A17 163 [.agg (Ah (As o))] [] (.t (.bool (B6 o))) []:=by
 have hlm:(o.batches.map Au).length=o.batches.length:=List.length_map ..
 by_cases hb:1<=o.batches.length/\o.batches.length<=8
 ·have ec:B6 o=C2 o.pid o.epoch (IA o.batches) o.batches:=by unfold B6;rw[decide_eq_true hb,Bool.true_and]
  rw[ec]
  refine ct0 Ag Tryz.func163 Y false Y Y ?_
  repeat'(first|exact prB|refine stC ?_|refine stU (fun h=>?_) fun h=>?_|refine stN (fun b hb=>?_)|refine stE 7 35 ?_|fail)
  all_goals try(exfalso;omega)
  refine A3 (ι:=Nat) (fun k=>k<=o.batches.length/\C2 o.pid o.epoch (IA o.batches) o.batches=C2 o.pid o.epoch (Adk o.batches k) (o.batches.drop k)/\(∀b,1<=k->o.batches[k-1]?=some b->A9 b=true)) (fun k=>[(1,.ref 2 0),(3,.t (.int .i64 k))]) (fun _=>[(2,.cells (Ah (As o)))]) (fun k=>o.batches.length-k) 0 ⟨by omega,Y,fun b h=>by omega⟩ ?_ ?_
  ·exact AE [] (Af Y Y (Af Y Y Aj)) Y
  rintro k ⟨hk,he,hpm⟩
  rw[he]
  by_cases hlt:k<o.batches.length
  ·have hr:o.batches[k]?=some o.batches[k]:=List.getElem?_eq_getElem hlt
   rw[List.drop_eq_getElem_cons hlt]at he⊢
   have hnx:Adk o.batches (k+1)=DK o.batches[k]:=by simp[Adk,hr]
   generalize o.batches[k]=b at hr he hnx⊢
   simp only[C2]at he⊢
   have cm:=Vg b
   cases hm:A9 b with
   |false=>
    rw[hm]at cm
    simp only[Bool.false_and]
    rcases k with _|j
    all_goals
     repeat'(first|exact prB|refine stC ?_|refine stU (fun h=>?_) fun h=>?_|refine stN (fun b hb=>?_)|refine stE 7 35 ?_|refine stM ?_ (c:=cm)|refine stL ?_ (c:=cm)|fail)
     all_goals first
      |exact Ai Y (A1y Y)
      |(exfalso;omega)
   |true=>
    rw[hm]at cm
    simp only[hm,Bool.true_and]at he
    rcases k with _|j
    ·have h0:Adk o.batches 0=b.seq:=Js hr
     rw[h0]at he⊢
     repeat'(first|exact prB|refine stC ?_|refine stU (fun h=>?_) fun h=>?_|refine stN (fun b hb=>?_)|refine stE 7 35 ?_|refine stM ?_ (c:=cm)|refine stL ?_ (c:=cm)|fail)
     all_goals first
      |exact Ai Y (AP (by simp_all;done))
      |(refine Ay 1 ⟨hlt,by rw[hnx];simp_all,fun x _ hx=>by(have:some b=some x:=hr.symm.trans hx);cases this;exact hm⟩ Aa [4] (Af Y Y (Af Y (by rw[An Aa Aa];rfl) Aj)) Y)
      |(exfalso;omega)
    ·have hr1:o.batches[j]?=some (o.batches[j]' Aa):=List.getElem?_eq_getElem _
     have hm1:=hpm (o.batches[j]' Aa) Aa (by rw[Nat.add_sub_cancel];exact hr1)
     have h0:Adk o.batches (j+1)=DK (o.batches[j]' Aa):=by simp[Adk,hr1]
     generalize o.batches[j]' Aa=b1 at hr1 hm1 h0
     have cb:=Mo b1 hm1
     have hw:IntKind.i64.wrap (((j+1:Nat):Int)-1)=((j:Nat):Int):=by rw[An Aa Aa];omega
     rw[h0]at he⊢
     repeat'(first|exact prB|refine stC ?_|refine stU (fun h=>?_) fun h=>?_|refine stN (fun b hb=>?_)|refine stE 7 35 ?_|refine stM ?_ (c:=cm)|refine stL ?_ (c:=cm)|refine stM ?_ (c:=cb)|refine stL ?_ (c:=cb)|fail)
     all_goals first
      |exact Ai Y (AP (by simp_all;done))
      |(refine Ay (j+1+1) ⟨hlt,by rw[hnx];simp_all,fun x _ hx=>by(have:some b=some x:=hr.symm.trans (by simpa using hx));cases this;exact hm⟩ Aa [4] (Af Y Y (Af Y (by rw[An Aa Aa];rfl) Aj)) Y)
      |(exfalso;omega)
  ·rw[List.drop_eq_nil_of_le Aa]
   repeat'(first|exact prB|refine stC ?_|refine stU (fun h=>?_) fun h=>?_|refine stN (fun b hb=>?_)|refine stE 7 35 ?_|fail)
   all_goals first
    |(exfalso;omega)
    |exact Ai Y (A1y Y)
 ·have ec:B6 o=false:=by unfold B6;rw[decide_eq_false hb,Bool.false_and]
  rw[ec]
  refine ct0 Ag Tryz.func163 Y false Y Y ?_
  repeat'(first|exact prB|refine stC ?_|refine stU (fun h=>?_) fun h=>?_|refine stN (fun b hb=>?_)|refine stE 7 35 ?_|fail)
  all_goals first
   |exact Ai Y (A1y Y)
   |(exfalso;omega)
theorem P4 (o:Opn) (h:B6 o=true):A17 164 [.agg (Ah (As o))] [] (.t (.int .i64 (Hj o.batches))) []:=by
 have hlm:(o.batches.map Au).length=o.batches.length:=List.length_map ..
 have hl:=BU h
 have hr:o.batches[o.batches.length-1]?=some (o.batches[o.batches.length-1]' Aa):=List.getElem?_eq_getElem _
 have hb:=(CF h _ (List.mem_of_getElem? hr)).1
 generalize o.batches[o.batches.length-1]' Aa=b at hr hb
 rw[I6 hr]
 have cb:=Mo b hb
 refine ct0 Ag Tryz.func164 Y false Y Y ?_
 have hw:IntKind.i64.wrap (((o.batches.map Au).length:Int)-1)=((o.batches.length-1:Nat):Int):=by rw[hlm,An Aa Aa];omega
 repeat'(first|exact prB|refine stC ?_|refine stU (fun h=>?_) fun h=>?_|refine stN (fun b hb=>?_)|refine JJ Ag Y Y Y Y Y Y Y hw (CL hr) Y ?_|refine stL ?_ (c:=cb)|fail)
 exact Ai Y (A1y Y)
def Ac9 (x:Entry):List T:=[.int .i8 x.kind,.int .i64 x.b.pid,.int .i64 x.b.epoch,.int .i64 x.b.seq,.bool x.b.txn,.slice .any 2 (x.b.recs.map AJ),.bool x.yes,.int .i64 x.next,.int .i64 x.offset,.int .i64 x.row.offset,.int .i64 x.row.pid,.int .i64 x.row.seq,.str x.row.key,.str x.row.value,.int .i64 x.prod.pid,.int .i64 x.prod.epoch,.int .i64 x.prod.next,.slice .nil 0 []]
theorem Ag2: ∀(l:List Entry),(∀x∈l,x.prod.seen=[])->Ih (l.map Ac9) (l.map Az)
 |[],_=>trivial
 |x::r,h=>by
  have h0:x.prod.seen=[]:=h x Ac
  refine⟨?_,Ag2 r fun y hy=>h y (by simp[hy])⟩
  unfold Ac9 Az
  rw[h0]
  exact⟨A15 _,A15 _,A15 _,A15 _,A15 _,A15 _,A15 _,A15 _,A15 _,A15 _,A15 _,A15 _,A15 _,A15 _,A15 _,A15 _,A15 _,BN.nil,trivial⟩
theorem Amz {o:Opn}: ∀x∈B7 o,x.prod.seen=[]:=by
 intro x hx
 simp only[B7,List.mem_mapIdx]at hx
 obtain⟨i,hi,rfl⟩:=hx
 unfold Da;split<;>rfl
theorem Pw (o:Opn) (h:B6 o=true):A17 93 [.agg (Ah (As o))] [] (.tuple [.t (.slice .any 18 ((B7 o).map Az)),.t (.int .i64 0)]) []:=by
 have hlm:(o.batches.map Au).length=o.batches.length:=List.length_map ..
 have hl:=BU h
 have cm:=R2 o Aa
 rw[h]at cm
 have cb:=P4 o h
 have hw:IntKind.i64.wrap (((o.batches.map Au).length:Int)-1)=((o.batches.length-1:Nat):Int):=by rw[hlm,An Aa Aa];omega
 refine ct0 Ag Tryz.func93 Y false Y Y ?_
 repeat'(first|exact prB|refine stC ?_|refine stU (fun h=>?_) fun h=>?_|refine stN (fun b hb=>?_)|refine stL ?_ (c:=cm)|fail)
 refine A1z 4 36 18 Y Y ?_
 refine A3 (ι:=Nat) (fun i=>i<=o.batches.length) (fun i=>[(1,.ref 2 0),(4,.row 72 18 0 (((o.batches.take i).mapIdx (Da o)).map Ac9).length),(5,.t (.int .i64 i))]) (fun i=>[(72,.grow 18 (((o.batches.take i).mapIdx (Da o)).map Ac9)),(2,.cells (Ah (As o)))]) (fun i=>o.batches.length-i) 0 Ac ?_ ?_
 ·exact AE [] (Af Y Y (Af Y Y (Af Y Y Aj))) Y
 rintro i hi
 by_cases hlt:i<o.batches.length
 ·have hr:o.batches[i]?=some o.batches[i]:=List.getElem?_eq_getElem hlt
  generalize o.batches[i]=b at hr
  have ht:(o.batches.take (i+1)).mapIdx (Da o)=(o.batches.take i).mapIdx (Da o)++[Da o i b]:=by
   rw[A5 hr,List.mapIdx_append];simp;congr 1;omega
  have hlen:(((o.batches.take i).mapIdx (Da o)).map Ac9).length<=8:=by simp;omega
  by_cases hz:i+1=o.batches.length
  ·have hca:Da o i b=⟨3,b,true,Hj o.batches,0,Lw,Gy⟩:=by unfold Da;rw[if_pos hz]
   rw[hca]at ht
   repeat'(first|exact prB|refine stC ?_|refine stU (fun h=>?_) fun h=>?_|refine stN (fun b hb=>?_)|refine stL ?_ (c:=cb)|fail)
   all_goals first
    |(exfalso;omega)
    |(refine Ay (i+1) hlt Aa [6] (Af Y Y (Af Y ?_ (Af Y (by rw[An Aa Aa];rfl) Aj))) ?_
      ·rw[ht];simp[Bq,AV.has]<;>rfl
      ·rw[ht];simp only[List.map_append];rfl)
  ·have hca:Da o i b=⟨3,b,false,0,0,Lw,Gy⟩:=by unfold Da;rw[if_neg hz]
   rw[hca]at ht
   repeat'(first|exact prB|refine stC ?_|refine stU (fun h=>?_) fun h=>?_|refine stN (fun b hb=>?_)|refine stL ?_ (c:=cb)|fail)
   all_goals first
    |(exfalso;omega)
    |(refine Ay (i+1) hlt Aa [6] (Af Y Y (Af Y ?_ (Af Y (by rw[An Aa Aa];rfl) Aj))) ?_
      ·rw[ht];simp[Bq,AV.has]<;>rfl
      ·rw[ht];simp only[List.map_append];rfl)
 ·have htk:o.batches.take i=o.batches:=List.take_of_length_le Aa
  rw[htk]
  repeat'(first|exact prB|refine stC ?_|refine stU (fun h=>?_) fun h=>?_|refine stN (fun b hb=>?_)|fail)
  all_goals try(exfalso;omega)
  refine Ai Y (Ap ⟨?_,A1x _,trivial⟩)
  refine Sub.tr (A1y (GD 72 18 ((o.batches.mapIdx (Da o)).map Ac9) _ Y)) ?_
  exact Yx (Ag2 _ Amz)
theorem Vy (o:Opn) (h:B6 o=false) (hs:o.batches.length<=1000000):A17 93 [.agg (Ah (As o))] [] (.tuple [.t (.slice .any 18 []),.t (.int .i64 2)]) []:=by
 have cm:=R2 o hs
 rw[h]at cm
 refine ct0 Ag Tryz.func93 Y false Y Y ?_
 repeat'(first|exact prB|refine stC ?_|refine stU (fun h=>?_) fun h=>?_|refine stN (fun b hb=>?_)|refine stL ?_ (c:=cm)|fail)
 all_goals exact Ai Y (Ap ⟨Ak,A1x _,trivial⟩)
theorem Aen (o:Opn) (h:B6 o=true):A17 104 [.agg (Ah (As o))] [] (.tuple [.agg (Ah (Az (N6 o))),.t (.int .i64 0)]) []:=by
 have hl:=BU h
 have cm:=R2 o Aa
 rw[h]at cm
 have cb:=P4 o h
 refine ct0 Ag Tryz.func104 Y false Y Y ?_
 repeat'(first|exact prB|refine stC ?_|refine stU (fun h=>?_) fun h=>?_|refine stN (fun b hb=>?_)|refine stL ?_ (c:=cm)|refine stM ?_ (c:=cb)|refine stL ?_ (c:=cb)|refine BC (id:=3) (m:=7) (ms:=[0,1,0,4,15,0,32,127,255,511]) Ag [(8,4)] Ab Y Y Y Y Ab Ab ?_|fail)
 all_goals first
  |(refine Ai Y ?_;(repeat'(first|exact A1x _|exact Ak|exact Ar|exact trivial|refine AA ?_|refine Ap ?_|refine And.intro ?_ ?_));done)
end Go.Proofs.YtmohpcgmdheafaaGreatDoor
