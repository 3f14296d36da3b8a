/- Contracts and laws, joined: Uq, Ur, Us, Usb, Usc, Uu, Ut, Uv. No condition beside those that each theorem names. -/
import Derived.Test.YtpdmaenhenfofaaGreatDoorZM10
import Derived.Test.YtpdmaenhenfofaaGreatDoorZJ21
import Derived.Test.YtpdmaenhenfofaaGreatDoorZM11
set_option linter.unusedVariables false
set_option linter.unusedSimpArgs false
namespace Go.Proofs.YtpdmaenhenfofaaGreatDoor
open Go.Am
attribute [local irreducible] Decidable.decide
set_option maxRecDepth 100000
set_option maxHeartbeats 1000000
def fdC (p:Part) (x:AV):List AV:=Aj (A5 p)++[x]
def EU:AV:=.t (.slice .nil 0 [])
def wT (pid:Int) (bs:List Batch):List T:=[.int .i64 pid,.slice .any 5 (bs.map Ap)]
theorem Sl (p:Part) (pid:Int):Ct Tryz.prog 188 [.ref 1 0,.t (.int .i64 pid)] [(1,.cells (fdC p EU))] (.tuple [.t (.int .i64 0),.t (.bool false)]) [(1,.cells (fdC p EU))]:=by
 have hz:((([]:List (List T)).length:Nat):Int)=0:=rfl
 refine ct1 Ac Tryz.func188 J J ?_
 repeat'(first|refine Ae Ac J J J ?_|refine Ag ?_|refine Ah ?_|refine Ai Ac J J ?_|refine Al ?_)
 refine AM (ι:=Unit) (fun _=>True) (fun _=>[(0,.ref 1 0),(1,.t (.int .i64 pid)),(6,.t (.int .i64 0))]) (fun _=>[(1,.cells (fdC p EU))]) (fun _=>0) () trivial ?_ ?_
 ·exact AR [] (Ad J J (Ad J J (Ad J J Aq))) J
 rintro _ _
 repeat'(first|refine Ae Ac J J J ?_|refine Ag ?_|refine Ah ?_|refine Ai Ac J J ?_|(refine Af J (ht:=fun h=>?_) (hf:=fun h=>?_)<;>try exact prn)|refine AB ?_)
 all_goals try(exfalso;omega)
 all_goals refine Ar ?_
 all_goals exact BR [] J J J (Sub.refl _)
theorem Ou (p:Part) (pid:Int) (bs:List Batch):Ct Tryz.prog 188 [.ref 1 0,.t (.int .i64 pid)] [(1,.cells (fdC p (.row 3 2 0 1))),(3,.grow 2 [wT pid bs])] (.tuple [.t (.int .i64 0),.t (.bool true)]) [(1,.cells (fdC p (.row 3 2 0 1))),(3,.grow 2 [wT pid bs])]:=by
 refine ct1 Ac Tryz.func188 J J ?_
 repeat'(first|refine Ae Ac J J J ?_|refine Ag ?_|refine Ah ?_|refine Ai Ac J J ?_|refine Al ?_)
 refine AM (ι:=Unit) (fun _=>True) (fun _=>[(0,.ref 1 0),(1,.t (.int .i64 pid)),(6,.t (.int .i64 0))]) (fun _=>[(1,.cells (fdC p (.row 3 2 0 1))),(3,.grow 2 [wT pid bs])]) (fun _=>0) () trivial ?_ ?_
 ·exact AR [] (Ad J J (Ad J J (Ad J J Aq))) J
 rintro _ _
 have hw:([wT pid bs]:List (List T))[0+0]?=some (wT pid bs):=rfl
 repeat'(first|refine Ae Ac J J J ?_|refine Ag ?_|refine Ah ?_|refine Ai Ac J J ?_|(refine Af J (ht:=fun h=>?_) (hf:=fun h=>?_)<;>try exact prn)|refine Al ?_|refine Ao ?_)
 all_goals try(exfalso;omega)
 all_goals refine Ar ?_
 all_goals exact BR [] J J J (Sub.refl _)
theorem YT (p:Part) (pid:Int):Ct Tryz.prog 190 [.ref 1 0,.t (.int .i64 pid)] [(1,.cells (fdC p EU))] (.t (.slice .any 5 [])) [(1,.cells (fdC p EU))]:=by
 have co:=Sl p pid
 refine ct1 Ac Tryz.func190 J J ?_
 repeat'(first|refine Ae Ac J J J ?_|refine Ag ?_|refine Ah ?_|refine Ai Ac J J ?_|(refine Af J (ht:=fun h=>?_) (hf:=fun h=>?_)<;>try exact prn)|refine A7 Ac [(1,1)] [(1,1)] J J J J J co J J J J J ?_)
 all_goals try(exfalso;omega)
 all_goals refine Ar ?_
 all_goals exact BR [] J J J A6
theorem P4 (p:Part) (pid:Int) (bs:List Batch):Ct Tryz.prog 190 [.ref 1 0,.t (.int .i64 pid)] [(1,.cells (fdC p (.row 3 2 0 1))),(3,.grow 2 [wT pid bs])] (.t (.slice .any 5 (bs.map Ap))) [(1,.cells (fdC p EU)),(3,.grow 2 [wT pid bs])]:=by
 have co:=Ou p pid bs
 have hw:([wT pid bs]:List (List T))[0+0]?=some (wT pid bs):=rfl
 refine ct1 Ac Tryz.func190 J J ?_
 repeat'(first|refine Ae Ac J J J ?_|refine Ag ?_|refine Ah ?_|refine Ai Ac J J ?_|(refine Af J (ht:=fun h=>?_) (hf:=fun h=>?_)<;>try exact prn)|refine Al ?_|refine Ao ?_|refine A7 Ac [(1,1),(3,3)] [(1,1),(3,3)] J J J J J co J J J J J ?_)
 refine AM (ι:=Nat) (fun i=>i≤1) (fun i=>[(0,.ref 1 0),(5,.t (.int .i64 0)),(7,.t (.slice .any 5 (bs.map Ap))),(8,.t (.slice .nil 0 [])),(9,.t (.int .i64 i))]) (fun _=>[(1,.cells (fdC p (.row 3 2 0 1))),(3,.grow 2 [wT pid bs])]) (fun i=>1-i) 0 O ?_ ?_
 ·exact AR [] (Ad J J (Ad J J (Ad J J (Ad J J (Ad J J Aq))))) J
 rintro i hi
 by_cases h0:i=0
 ·subst h0
  repeat'(first|refine Ae Ac J J J ?_|refine Ag ?_|refine Ah ?_|refine Ai Ac J J ?_|(refine Af J (ht:=fun h=>?_) (hf:=fun h=>?_)<;>try exact prn)|refine Al ?_|refine Ao ?_)
  all_goals try(exfalso;omega)
  all_goals refine AF (0+1) O O [] (Ad J J (Ad J J (Ad J J (Ad J J (Ad J (by rw[A0 O O];rfl) Aq))))) J
 ·have h1:i=1:=by omega
  subst h1
  repeat'(first|refine An Ac J J J J J ?_|refine Ae Ac J J J ?_|refine Ag ?_|refine Ah ?_|refine Ai Ac J J ?_|(refine Af J (ht:=fun h=>?_) (hf:=fun h=>?_)<;>try exact prn)|refine AB ?_)
  all_goals try(exfalso;omega)
  all_goals refine Ar ?_
  all_goals exact BR [] J J J (Sub.refl _)
def UV (p:Part) (pid epoch next:Int):Part:={p with prods:=Dt p.prods ⟨pid,epoch,next,[]⟩}
theorem S9 (p:Part) (pid epoch next:Int) (hm:BO p.prods=true) (h:CK p.prods pid=true→(AX p.prods pid).epoch<epoch∨((AX p.prods pid).epoch=epoch∧(AX p.prods pid).next≤next)):Ct Tryz.prog 148 [.ref 1 0,.agg (Aj (A4 (eX pid epoch next)))] [(1,.cells (fdC p EU))] (.t (.bool true)) [(1,.cells (fdC (UV p pid epoch next) EU))]:=by
 have hl8:=DY hm O
 have ca:=YT p pid
 have cf:=JM p.prods pid O
 have cs0:=NS p.prods ⟨pid,epoch,next,[]⟩ O
 have cs:Ct Tryz.prog 191 [.t (.slice .any 4 (p.prods.map Av)),.agg [.t (.int .i64 pid),.t (.int .i64 epoch),.t (.int .i64 next),.t (.slice .nil 0 [])]] [] (.t (.slice .any 4 ((Dt p.prods ⟨pid,epoch,next,[]⟩).map Av))) []:=cs0.args ⟨Sub.refl _,by refine B7 ?_;exact⟨Sub.refl _,Sub.refl _,Sub.refl _,A6,trivial⟩,trivial⟩
 have o1:(eX pid epoch next).b.pid=pid:=rfl
 have o2:(eX pid epoch next).b.epoch=epoch:=rfl
 have o3:(eX pid epoch next).next=next:=rfl
 generalize CK p.prods pid=hh at*
 generalize AX p.prods pid=q at*
 cases hh with
 |true=>
  have h:=h J
  refine ct1 Ac Tryz.func148 J J ?_
  repeat'(first|refine An Ac J J J J J ?_|refine Ae Ac J J J ?_|refine Ag ?_|refine Ah ?_|refine Ai Ac J J ?_|(refine AZ J J J J J (ht:=fun h=>?_) (hf:=fun h=>?_)<;>try exact prn)|(refine AP J J J J J (ht:=fun h=>?_) (hf:=fun h=>?_)<;>try exact prn)|(refine Af J (ht:=fun h=>?_) (hf:=fun h=>?_)<;>try exact prn)|refine Ao ?_|refine A9 (id:=5) (m:=16) Ac Y J J J J ?_|refine AA J J J J ?_|refine CY ?_|refine J4 Ac 13 12 (id:=1) (m:=14) (x0:=.agg (Aj (Av q))) (ys:=Aj (Av q)) Y J J J J J J J J J J Y Y J J J J J Y ?_ J|refine⟨J,J,?_⟩|refine AO J J J J J (cf) J J ?_|refine A7 Ac [(1,1)] [(1,1)] J J J J J ca J J J J J ?_|refine AO J J J J J (cs) J J ?_)
  all_goals try(exfalso;omega)
  all_goals refine Ar ?_
  all_goals exact BR [3,5] J J J (Sub.refl _)
 |false=>
  refine ct1 Ac Tryz.func148 J J ?_
  repeat'(first|refine An Ac J J J J J ?_|refine Ae Ac J J J ?_|refine Ag ?_|refine Ah ?_|refine Ai Ac J J ?_|(refine AZ J J J J J (ht:=fun h=>?_) (hf:=fun h=>?_)<;>try exact prn)|refine Gz J J J J J ?_|(refine Af J (ht:=fun h=>?_) (hf:=fun h=>?_)<;>try exact prn)|refine Ao ?_|refine A9 (id:=5) (m:=16) Ac Y J J J J ?_|refine AA J J J J ?_|refine CY ?_|refine J4 Ac 13 12 (id:=1) (m:=14) (x0:=.agg (Aj (Av q))) (ys:=Aj (Av q)) Y J J J J J J J J J J Y Y J J J J J Y ?_ J|refine⟨J,J,?_⟩|refine AO J J J J J (cf) J J ?_|refine A7 Ac [(1,1)] [(1,1)] J J J J J ca J J J J J ?_|refine AO J J J J J (cs) J J ?_)
  all_goals try(exfalso;omega)
  all_goals refine Ar ?_
  all_goals exact BR [3,5] J J J (Sub.refl _)
end Go.Proofs.YtpdmaenhenfofaaGreatDoor
namespace Go.Proofs.YtpdmaenhenfofaaGreatDoor
open Go.Am
attribute [local irreducible] Decidable.decide
set_option maxRecDepth 100000
set_option maxHeartbeats 1000000
theorem W6 (p:Part) (b:Batch) (hb:A1 b=true):Ct Tryz.prog 147 [.ref 1 0,.agg (Aj (A4 (eY b false 0)))] [(1,.cells (fdC p EU))] (.t (.bool true)) [(66,.grow 2 [wT b.pid [b]]),(1,.cells (fdC p (.row 66 2 0 1)))]:=by
 have co:=Sl p b.pid
 have hm:=AU hb
 have o1:(eY b false 0).b=b:=rfl
 have o2: ¬(eY b false 0).yes=true:=by simp[eY]
 have hz:((([]:List (List T)).length:Nat):Int)=0:=rfl
 have hn0:IntKind.i64.wrap (((1:Nat):Int)-1)=((0:Nat):Int):=by rw[A0 O O];rfl
 refine ct1 Ac Tryz.func147 J J ?_
 repeat'(first|refine An Ac J J J J J ?_|refine Ae Ac J J J ?_|refine Ag ?_|refine Ah ?_|refine Ai Ac J J ?_|(refine AZ J J J J J (ht:=fun h=>?_) (hf:=fun h=>?_)<;>try exact prn)|(refine AP J J J J J (ht:=fun h=>?_) (hf:=fun h=>?_)<;>try exact prn)|(refine Af J (ht:=fun h=>?_) (hf:=fun h=>?_)<;>try exact prn)|refine Ao ?_|refine A9 (id:=3) (m:=11) Ac Y J J J J ?_|refine A9 (id:=6) (m:=15) Ac Y J J J J ?_|refine AA J J J J ?_|(refine EQ J J J J J (ht:=fun h=>?_) (hf:=fun h=>?_)<;>try exact prn)|(refine Fi J J J J J (ht:=fun h=>?_) (hf:=fun h=>?_)<;>try exact prn)|refine EL Ac (kc:=0) J J J J J J J hn0 Nat.zero_lt_one J ?_|refine A7 Ac [(1,1)] [(1,1)] J J J J J co J J J J J ?_)
 all_goals try(exfalso;omega)
 refine Tr.weak (E:=[(0,.ref 1 0),(3,.ref 6 0),(5,.t (.int .i64 (0:Nat))),(8,.row 140 5 0 0)]) (S:=[(140,.grow 5 []),(66,.grow 2 [[.int .i64 b.pid,.slice .nil 0 []]]),(1,.cells (fdC p (.row 66 2 0 1))),(6,.cells (Aj (A4 (eY b false 0))))]) ?_ (AR [] (Ad J J (Ad J J (Ad J (congrArg (fun x=>AV.t (T.int .i64 x)) hn0) (Ad J J Aq)))) J)
 refine Q9 (ι:=Unit) (fun _=>True) (fun _=>[(0,.ref 1 0),(3,.ref 6 0)]) (fun _=>[(66,.grow 2 [wT b.pid [b]]),(1,.cells (fdC p (.row 66 2 0 1))),(6,.cells (Aj (A4 (eY b false 0))))]) (fun _ _ h=>h) ?_ ?_
 ·refine Gp Ac [0,4,5,6] 9 Y J J (by rintro ch e s ⟨hx,_⟩;rcases hx with hx|hx<;>cases hx) ?_
  repeat'(first|refine An Ac J J J J J ?_|refine Ae Ac J J J ?_|refine Ag ?_|refine P8 J ?_|refine P7 J J ?_|refine P6 J J J ?_ ?_)
  all_goals exact Mw () trivial [] (Ad J J (Ad J J Aq)) J
 ·rintro _ _
  repeat'(first|refine Ae Ac J J J ?_|refine Ag ?_|refine Ah ?_|refine Ai Ac J J ?_|(refine Af J (ht:=fun h=>?_) (hf:=fun h=>?_)<;>try exact prn))
  all_goals try(exfalso;omega)
  all_goals refine Ar ?_
  all_goals exact BR [3] J J J (Sub.refl _)
end Go.Proofs.YtpdmaenhenfofaaGreatDoor
namespace Go.Proofs.YtpdmaenhenfofaaGreatDoor
open Go.Am
attribute [local irreducible] Decidable.decide
set_option maxRecDepth 100000
set_option maxHeartbeats 1000000
inductive TA:Part→List Batch→Part→Prop
 |nil (p:Part):TA p [] p
 |cons {p r:Part} {b:Batch} {l:List Batch} (hm:BO p.prods=true) (hb:A1 b=true) (hc:B4 p.prods b=0) (hi:Cl p.prods b=false) (h1:0≤p.fin) (h2:p.fin≤1000000000) (h3:p.rows.length≤1000000) (t:TA {p with prods:=Dt p.prods (Bx p.prods b (-1)),fin:=p.fin+b.recs.length,rows:=p.rows++BS b p.fin} l r):TA p (b::l) r
set_option maxHeartbeats 4000000 in
theorem W3 (p:Part) (b:Batch) (hb:A1 b=true) (r:Part) (hT:TA p ([]++[b]) r) (hrm:BO r.prods=true):Ct Tryz.prog 147 [.ref 1 0,.agg (Aj (A4 (eY b true (Bo b))))] [(1,.cells (fdC p EU))] (.t (.bool true)) [(1,.cells (fdC {r with prods:=Cr r.prods b.pid} EU))]:=by
 have co:=Sl p b.pid
 have hm:=AU hb
 have o1:(eY b true (Bo b)).b=b:=rfl
 have o4:(eY b true (Bo b)).b.epoch=b.epoch:=rfl
 have o2:(eY b true (Bo b)).yes=true:=by simp[eY]
 have hz:((([]:List (List T)).length:Nat):Int)=0:=rfl
 have hn0:IntKind.i64.wrap (((1:Nat):Int)-1)=((0:Nat):Int):=by rw[A0 O O];rfl
 refine ct1 Ac Tryz.func147 J J ?_
 repeat'(first|refine An Ac J J J J J ?_|refine Ae Ac J J J ?_|refine Ag ?_|refine Ah ?_|refine Ai Ac J J ?_|(refine AZ J J J J J (ht:=fun h=>?_) (hf:=fun h=>?_)<;>try exact prn)|(refine AP J J J J J (ht:=fun h=>?_) (hf:=fun h=>?_)<;>try exact prn)|(refine Af J (ht:=fun h=>?_) (hf:=fun h=>?_)<;>try exact prn)|refine Ao ?_|refine A9 (id:=3) (m:=11) Ac Y J J J J ?_|refine A9 (id:=6) (m:=15) Ac Y J J J J ?_|refine AA J J J J ?_|(refine EQ J J J J J (ht:=fun h=>?_) (hf:=fun h=>?_)<;>try exact prn)|(refine Fi J J J J J (ht:=fun h=>?_) (hf:=fun h=>?_)<;>try exact prn)|refine A7 Ac [(1,1)] [(1,1)] J J J J J co J J J J J ?_|refine EL Ac (kc:=0) J J J J J J J hn0 Nat.zero_lt_one J ?_)
 all_goals try(exfalso;omega)
 refine Tr.weak (E:=[(0,.ref 1 0),(3,.ref 6 0),(5,.t (.int .i64 (0:Nat))),(8,.row 140 5 0 0)]) (S:=[(140,.grow 5 []),(66,.grow 2 [[.int .i64 b.pid,.slice .nil 0 []]]),(1,.cells (fdC p (.row 66 2 0 1))),(6,.cells (Aj (A4 (eY b true (Bo b)))))]) ?_ (AR [] (Ad J J (Ad J J (Ad J (congrArg (fun x=>AV.t (T.int .i64 x)) hn0) (Ad J J Aq)))) J)
 refine Q9 (ι:=Unit) (fun _=>True) (fun _=>[(0,.ref 1 0),(3,.ref 6 0)]) (fun _=>[(66,.grow 2 [wT b.pid ([]++[b])]),(1,.cells (fdC p (.row 66 2 0 1))),(6,.cells (Aj (A4 (eY b true (Bo b)))))]) (fun _ _ h=>h) ?_ ?_
 ·refine Gp Ac [0,4,5,6] 9 Y J J (by rintro ch e s ⟨hx,_⟩;rcases hx with hx|hx<;>cases hx) ?_
  repeat'(first|refine An Ac J J J J J ?_|refine Ae Ac J J J ?_|refine Ag ?_|refine P8 J ?_|refine P7 J J ?_|refine P6 J J J ?_ ?_)
  all_goals exact Mw () trivial [] (Ad J J (Ad J J Aq)) J
 ·rintro _ _
  have o3:(eY b true (Bo b)).next=Bo b:=rfl
  have cb:=KI b hb
  have ca:=P4 p b.pid ([]++[b])
  have cc:=KC r.prods b.pid hrm
  have hlm:(([]++[b]).map Ap).length=([]++[b]).length:=List.length_map ..
  have hll:([]++[b]).length≤9:=by simp
  repeat'(first|refine Ae Ac J J J ?_|refine Ag ?_|refine Ah ?_|refine Ai Ac J J ?_|(refine Af J (ht:=fun h=>?_) (hf:=fun h=>?_)<;>try exact prn)|refine Al ?_|refine Ao ?_|refine A9 (id:=13) (m:=5) Ac Y J J J J ?_|refine AA J J J J ?_|refine AO J J J J J (cb) J J ?_|refine A7 Ac [(1,1),(66,3)] [(1,1),(3,66)] J J J J J ca J J J J J ?_)
  all_goals try(exfalso;omega)
  generalize hB:[]++[b]=B at*
  refine AM (ι:=Nat×Part) (fun x=>x.1≤B.length∧TA x.2 (B.drop x.1) r) (fun x=>[(0,.ref 1 0),(3,.ref 6 0),(9,.t (.slice .any 5 (B.map Ap))),(10,.t (.int .i64 x.1))]) (fun x=>[(1,.cells (fdC x.2 EU)),(6,.cells (Aj (A4 (eY b true (Bo b)))))]) (fun x=>B.length-x.1) (0,p) ⟨by simp,hT⟩ ?_ ?_
  ·exact AR [33] (Ad J J (Ad J J (Ad J J (Ad J J Aq)))) J
  rintro⟨i,q⟩ ⟨hi,hF⟩
  simp only at hi hF
  by_cases hlt:i<B.length
  ·have hr:B[i]?=some B[i]:=List.getElem?_eq_getElem hlt
   generalize B[i]=x at hr
   rw[BE hr]at hF
   cases hF with
   |cons t1 t2 t3 t4 t5 t6 t7 t=>
    have ct:=Hp q.prods x (-1) t1 t2 t3 t4 O O
    have cd:=Mg {q with prods:=Dt q.prods (Bx q.prods x (-1))} x t2 t5 t6 t7
    repeat'(first|refine An Ac J J J J J ?_|refine Ae Ac J J J ?_|refine Ag ?_|refine Ah ?_|refine Ai Ac J J ?_|(refine Af J (ht:=fun h=>?_) (hf:=fun h=>?_)<;>try exact prn)|refine Al ?_|refine Ao ?_|refine A9 (id:=19) (m:=14) Ac Y J J J J ?_|refine A9 (id:=23) (m:=10) Ac Y J J J J ?_|refine AA J J J J ?_|refine Bz J J J J J J J (A2 Aa) J ?_|refine AO J J J J J (ct) J J ?_|refine AO J J J J J (cd) J J ?_)
    all_goals try(exfalso;omega)
    all_goals refine AF (i+1,_) ⟨hlt,t⟩ (by simp;omega) [] (Ad J J (Ad J J (Ad J J (Ad J (by rw[A0 O O];rfl) Aq)))) J
  ·have hin:i=B.length:=by omega
   subst hin
   rw[List.drop_length]at hF
   cases hF
   repeat'(first|refine An Ac J J J J J ?_|refine Ae Ac J J J ?_|refine Ag ?_|refine Ah ?_|refine Ai Ac J J ?_|(refine Af J (ht:=fun h=>?_) (hf:=fun h=>?_)<;>try exact prn)|refine AB ?_|refine A9 (id:=24) (m:=10) Ac Y J J J J ?_|refine AA J J J J ?_|refine AO J J J J J (cc) J J ?_)
   all_goals try(exfalso;omega)
   all_goals refine Ar ?_
   all_goals exact BR [3] J J J (Sub.refl _)
end Go.Proofs.YtpdmaenhenfofaaGreatDoor
namespace Go.Proofs.YtpdmaenhenfofaaGreatDoor
open Go.Am
attribute [local irreducible] Decidable.decide
set_option maxRecDepth 100000
set_option maxHeartbeats 1000000
set_option maxHeartbeats 4000000 in
theorem W5 (p:Part) (b:Batch) (hb:A1 b=true) (bs:List Batch) (b0:Batch) (h0:bs[0]?=some b0) (he:b0.epoch=b.epoch) (h8:bs.length<8):Ct Tryz.prog 147 [.ref 1 0,.agg (Aj (A4 (eY b false 0)))] [(1,.cells (fdC p (.row 3 2 0 1))),(3,.grow 2 [wT b.pid bs])] (.t (.bool true)) [(1,.cells (fdC p (.row 3 2 0 1))),(3,.grow 2 [wT b.pid (bs++[b])])]:=by
 have co:=Ou p b.pid bs
 have hm:=AU hb
 have o1:(eY b false 0).b=b:=rfl
 have o4:(eY b false 0).b.epoch=b.epoch:=rfl
 have o2: ¬(eY b false 0).yes=true:=by simp[eY]
 have hz:((([]:List (List T)).length:Nat):Int)=0:=rfl
 have hn0:IntKind.i64.wrap (((1:Nat):Int)-1)=((0:Nat):Int):=by rw[A0 O O];rfl
 have hlb:(bs.map Ap).length=bs.length:=List.length_map ..
 have hpos:0<bs.length:=(List.getElem?_eq_some_iff.1 h0).1
 have hi0:(0:Int)=((0:Nat):Int):=rfl
 have hw:([wT b.pid bs]:List (List T))[0+0]?=some (wT b.pid bs):=rfl
 have hfz:BA 140 5 (bs.map Ap++[Ap b]) (.row 140 5 0 (bs.map Ap++[Ap b]).length)=.t (.slice .any 5 (bs.map Ap++[Ap b])):=JL _ _ _ _ J
 refine ct1 Ac Tryz.func147 J J ?_
 repeat'(first|refine Ae Ac J J J ?_|refine Ag ?_|refine Ah ?_|refine Ai Ac J J ?_|(refine AZ J J J J J (ht:=fun h=>?_) (hf:=fun h=>?_)<;>try exact prn)|(refine AP J J J J J (ht:=fun h=>?_) (hf:=fun h=>?_)<;>try exact prn)|(refine Af J (ht:=fun h=>?_) (hf:=fun h=>?_)<;>try exact prn)|refine Ao ?_|refine Ew Ac J J J J J J J J J J J J J (by simp[AW];omega) ?_|refine A9 (id:=6) (m:=15) Ac Y J J J J ?_|refine AA J J J J ?_|(refine EQ J J J J J (ht:=fun h=>?_) (hf:=fun h=>?_)<;>try exact prn)|(refine Fi J J J J J (ht:=fun h=>?_) (hf:=fun h=>?_)<;>try exact prn)|refine Bz J J J J J J J (A2 Aa) J ?_|refine A7 Ac [(1,1),(3,3)] [(1,1),(3,3)] J J J J J co J J J J J ?_)
 all_goals try(exfalso;omega)
 refine Tr.weak (E:=[(0,.ref 1 0),(3,.ref 6 0),(5,.t (.int .i64 (0:Nat))),(8,.row 140 5 0 (bs.map Ap).length)]) (S:=[(140,.grow 5 (bs.map Ap)),(1,.cells (fdC p (.row 3 2 0 1))),(3,.grow 2 [wT b.pid bs]),(6,.cells (Aj (A4 (eY b false 0))))]) ?_ (AR [] (Ad J J (Ad J J (Ad J J (Ad J J Aq)))) J)
 refine Q9 (ι:=Unit) (fun _=>True) (fun _=>[(0,.ref 1 0),(3,.ref 6 0)]) (fun _=>[(1,.cells (fdC p (.row 3 2 0 1))),(3,.grow 2 [[.int .i64 b.pid,.slice .any 5 (bs.map Ap++[Ap b])]]),(6,.cells (Aj (A4 (eY b false 0))))]) (fun _ _ h=>h) ?_ ?_
 ·refine Gp Ac [0,4,5,6] 9 Y J J (by rintro ch e s ⟨hx,_⟩;rcases hx with hx|hx<;>cases hx) ?_
  repeat'(first|refine An Ac J J J J J ?_|refine Ae Ac J J J ?_|refine Ag ?_|refine AN Ac J J J J J J J J J J J J J J (by simp[AW];omega) ?_|refine P8 J ?_|refine P7 J J ?_|refine P6 J J J ?_ ?_|refine E0 80 140 J J J hfz ?_)
  all_goals exact Mw () trivial [] (Ad J J (Ad J J Aq)) J
 ·rintro _ _
  have hWe:[[T.int .i64 b.pid,T.slice .any 5 (bs.map Ap++[Ap b])]]=[wT b.pid (bs++[b])]:=by simp[wT]
  rw[hWe]
  repeat'(first|refine Ae Ac J J J ?_|refine Ag ?_|refine Ah ?_|refine Ai Ac J J ?_|(refine Af J (ht:=fun h=>?_) (hf:=fun h=>?_)<;>try exact prn))
  all_goals try(exfalso;omega)
  all_goals refine Ar ?_
  all_goals exact BR [3] J J J (Sub.refl _)
end Go.Proofs.YtpdmaenhenfofaaGreatDoor
namespace Go.Proofs.YtpdmaenhenfofaaGreatDoor
open Go.Am
attribute [local irreducible] Decidable.decide
set_option maxRecDepth 100000
set_option maxHeartbeats 1000000
set_option maxHeartbeats 4000000 in
theorem W4 (p:Part) (b:Batch) (hb:A1 b=true) (bs:List Batch) (b0:Batch) (h0:bs[0]?=some b0) (he:b0.epoch=b.epoch) (h8:bs.length<8) (r:Part) (hT:TA p (bs++[b]) r) (hrm:BO r.prods=true):Ct Tryz.prog 147 [.ref 1 0,.agg (Aj (A4 (eY b true (Bo b))))] [(1,.cells (fdC p (.row 3 2 0 1))),(3,.grow 2 [wT b.pid bs])] (.t (.bool true)) [(1,.cells (fdC {r with prods:=Cr r.prods b.pid} EU)),(3,.grow 2 [wT b.pid (bs++[b])])]:=by
 have co:=Ou p b.pid bs
 have hm:=AU hb
 have o1:(eY b true (Bo b)).b=b:=rfl
 have o4:(eY b true (Bo b)).b.epoch=b.epoch:=rfl
 have o2:(eY b true (Bo b)).yes=true:=by simp[eY]
 have hz:((([]:List (List T)).length:Nat):Int)=0:=rfl
 have hn0:IntKind.i64.wrap (((1:Nat):Int)-1)=((0:Nat):Int):=by rw[A0 O O];rfl
 have hlb:(bs.map Ap).length=bs.length:=List.length_map ..
 have hpos:0<bs.length:=(List.getElem?_eq_some_iff.1 h0).1
 have hi0:(0:Int)=((0:Nat):Int):=rfl
 have hw:([wT b.pid bs]:List (List T))[0+0]?=some (wT b.pid bs):=rfl
 have hfz:BA 140 5 (bs.map Ap++[Ap b]) (.row 140 5 0 (bs.map Ap++[Ap b]).length)=.t (.slice .any 5 (bs.map Ap++[Ap b])):=JL _ _ _ _ J
 refine ct1 Ac Tryz.func147 J J ?_
 repeat'(first|refine Ae Ac J J J ?_|refine Ag ?_|refine Ah ?_|refine Ai Ac J J ?_|(refine AZ J J J J J (ht:=fun h=>?_) (hf:=fun h=>?_)<;>try exact prn)|(refine AP J J J J J (ht:=fun h=>?_) (hf:=fun h=>?_)<;>try exact prn)|(refine Af J (ht:=fun h=>?_) (hf:=fun h=>?_)<;>try exact prn)|refine Ao ?_|refine Ew Ac J J J J J J J J J J J J J (by simp[AW];omega) ?_|refine A9 (id:=6) (m:=15) Ac Y J J J J ?_|refine AA J J J J ?_|(refine EQ J J J J J (ht:=fun h=>?_) (hf:=fun h=>?_)<;>try exact prn)|(refine Fi J J J J J (ht:=fun h=>?_) (hf:=fun h=>?_)<;>try exact prn)|refine Bz J J J J J J J (A2 Aa) J ?_|refine A7 Ac [(1,1),(3,3)] [(1,1),(3,3)] J J J J J co J J J J J ?_)
 all_goals try(exfalso;omega)
 refine Tr.weak (E:=[(0,.ref 1 0),(3,.ref 6 0),(5,.t (.int .i64 (0:Nat))),(8,.row 140 5 0 (bs.map Ap).length)]) (S:=[(140,.grow 5 (bs.map Ap)),(1,.cells (fdC p (.row 3 2 0 1))),(3,.grow 2 [wT b.pid bs]),(6,.cells (Aj (A4 (eY b true (Bo b)))))]) ?_ (AR [] (Ad J J (Ad J J (Ad J J (Ad J J Aq)))) J)
 refine Q9 (ι:=Unit) (fun _=>True) (fun _=>[(0,.ref 1 0),(3,.ref 6 0)]) (fun _=>[(1,.cells (fdC p (.row 3 2 0 1))),(3,.grow 2 [[.int .i64 b.pid,.slice .any 5 (bs.map Ap++[Ap b])]]),(6,.cells (Aj (A4 (eY b true (Bo b)))))]) (fun _ _ h=>h) ?_ ?_
 ·refine Gp Ac [0,4,5,6] 9 Y J J (by rintro ch e s ⟨hx,_⟩;rcases hx with hx|hx<;>cases hx) ?_
  repeat'(first|refine An Ac J J J J J ?_|refine Ae Ac J J J ?_|refine Ag ?_|refine AN Ac J J J J J J J J J J J J J J (by simp[AW];omega) ?_|refine P8 J ?_|refine P7 J J ?_|refine P6 J J J ?_ ?_|refine E0 80 140 J J J hfz ?_)
  all_goals exact Mw () trivial [] (Ad J J (Ad J J Aq)) J
 ·rintro _ _
  have hWe:[[T.int .i64 b.pid,T.slice .any 5 (bs.map Ap++[Ap b])]]=[wT b.pid (bs++[b])]:=by simp[wT]
  rw[hWe]
  have o3:(eY b true (Bo b)).next=Bo b:=rfl
  have cb:=KI b hb
  have ca:=P4 p b.pid (bs++[b])
  have cc:=KC r.prods b.pid hrm
  have hlm:((bs++[b]).map Ap).length=(bs++[b]).length:=List.length_map ..
  have hll:(bs++[b]).length≤9:=by simp;omega
  repeat'(first|refine Ae Ac J J J ?_|refine Ag ?_|refine Ah ?_|refine Ai Ac J J ?_|(refine Af J (ht:=fun h=>?_) (hf:=fun h=>?_)<;>try exact prn)|refine Al ?_|refine Ao ?_|refine A9 (id:=13) (m:=5) Ac Y J J J J ?_|refine AA J J J J ?_|refine AO J J J J J (cb) J J ?_|refine A7 Ac [(1,1),(3,3)] [(1,1),(3,3)] J J J J J ca J J J J J ?_)
  all_goals try(exfalso;omega)
  generalize hB:bs++[b]=B at*
  refine AM (ι:=Nat×Part) (fun x=>x.1≤B.length∧TA x.2 (B.drop x.1) r) (fun x=>[(0,.ref 1 0),(3,.ref 6 0),(9,.t (.slice .any 5 (B.map Ap))),(10,.t (.int .i64 x.1))]) (fun x=>[(1,.cells (fdC x.2 EU)),(3,.grow 2 [wT b.pid B]),(6,.cells (Aj (A4 (eY b true (Bo b)))))]) (fun x=>B.length-x.1) (0,p) ⟨by simp,hT⟩ ?_ ?_
  ·exact AR [] (Ad J J (Ad J J (Ad J J (Ad J J Aq)))) J
  rintro⟨i,q⟩ ⟨hi,hF⟩
  simp only at hi hF
  by_cases hlt:i<B.length
  ·have hr:B[i]?=some B[i]:=List.getElem?_eq_getElem hlt
   generalize B[i]=x at hr
   rw[BE hr]at hF
   cases hF with
   |cons t1 t2 t3 t4 t5 t6 t7 t=>
    have ct:=Hp q.prods x (-1) t1 t2 t3 t4 O O
    have cd:=Mg {q with prods:=Dt q.prods (Bx q.prods x (-1))} x t2 t5 t6 t7
    repeat'(first|refine An Ac J J J J J ?_|refine Ae Ac J J J ?_|refine Ag ?_|refine Ah ?_|refine Ai Ac J J ?_|(refine Af J (ht:=fun h=>?_) (hf:=fun h=>?_)<;>try exact prn)|refine Al ?_|refine Ao ?_|refine A9 (id:=19) (m:=14) Ac Y J J J J ?_|refine A9 (id:=23) (m:=10) Ac Y J J J J ?_|refine AA J J J J ?_|refine Bz J J J J J J J (A2 Aa) J ?_|refine AO J J J J J (ct) J J ?_|refine AO J J J J J (cd) J J ?_)
    all_goals try(exfalso;omega)
    all_goals refine AF (i+1,_) ⟨hlt,t⟩ (by simp;omega) [] (Ad J J (Ad J J (Ad J J (Ad J (by rw[A0 O O];rfl) Aq)))) J
  ·have hin:i=B.length:=by omega
   subst hin
   rw[List.drop_length]at hF
   cases hF
   repeat'(first|refine An Ac J J J J J ?_|refine Ae Ac J J J ?_|refine Ag ?_|refine Ah ?_|refine Ai Ac J J ?_|(refine Af J (ht:=fun h=>?_) (hf:=fun h=>?_)<;>try exact prn)|refine AB ?_|refine A9 (id:=24) (m:=10) Ac Y J J J J ?_|refine AA J J J J ?_|refine AO J J J J J (cc) J J ?_)
   all_goals try(exfalso;omega)
   all_goals refine Ar ?_
   all_goals exact BR [3] J J J (Sub.refl _)
end Go.Proofs.YtpdmaenhenfofaaGreatDoor
namespace Go.Proofs.YtpdmaenhenfofaaGreatDoor
open Go.Am
attribute [local irreducible] Decidable.decide
set_option maxRecDepth 100000
set_option maxHeartbeats 1000000
def S7 (pid:Int) (bs:List Batch):List T:=[.int .i64 pid,.slice .any 18 ((bs.map eD).map A4)]
inductive TS:Part→List Batch→Part→Prop
 |nil (p:Part):TS p [] p
 |cons {p r:Part} {b:Batch} {l:List Batch} (g:GP p) (hb:A1 b=true) (hc:B4 p.prods b=0) (hi:Cl p.prods b=false) (ht:b.txn=true) (hr:GO p b=none) (t:TS (Gc p b) l r):TS p (b::l) r
theorem XM (p r:Part) (pid:Int) (bs:List Batch) (b0:Batch) (h0:bs[0]?=some b0) (hl:bs.length≤8) (hall: ∀b∈bs,b.pid=pid∧b.epoch=b0.epoch) (hT:TS p bs r):Ct Tryz.prog 90 [.ref 1 0,.agg (Aj (S7 pid bs))] [(1,.cells (fdC p EU))] (.t (.bool true)) [(1,.cells (fdC r EU))]:=by
 have hlm:((bs.map eD).map A4).length=bs.length:=by simp
 have hpos:0<bs.length:=(List.getElem?_eq_some_iff.1 h0).1
 have hL0:(bs.map eD)[0]?=some (eD b0):=by simp[h0]
 have hi0:(0:Int)=((0:Nat):Int):=rfl
 refine ct1 Ac Tryz.func90 J J ?_
 repeat'(first|refine Ae Ac J J J ?_|refine Ag ?_|refine Ah ?_|refine Ai Ac J J ?_|(refine AP J J J J J (ht:=fun h=>?_) (hf:=fun h=>?_)<;>try exact prn)|(refine Af J (ht:=fun h=>?_) (hf:=fun h=>?_)<;>try exact prn)|refine Al ?_|refine Ao ?_)
 all_goals try(exfalso;omega)
 refine AM (ι:=Nat×Part) (fun x=>x.1≤bs.length∧TS x.2 (bs.drop x.1) r) (fun x=>[(0,.ref 1 0),(3,.ref 6 0),(5,.t (.int .i64 x.1))]) (fun x=>[(6,.cells (Aj (S7 pid bs))),(1,.cells (fdC x.2 EU))]) (fun x=>bs.length-x.1) (0,p) ⟨by simp,hT⟩ ?_ ?_
 ·exact AR [] (Ad J J (Ad J J (Ad J J Aq))) J
 rintro⟨i,q⟩ ⟨hi,hF⟩
 simp only at hi hF
 by_cases hlt:i<bs.length
 ·have hr:bs[i]?=some bs[i]:=List.getElem?_eq_getElem hlt
  obtain⟨a1,a2⟩:=hall bs[i] (List.getElem_mem hlt)
  generalize bs[i]=b at hr a1 a2
  have hrm:(bs.map eD)[i]?=some (eD b):=by simp[hr]
  rw[BE hr]at hF
  cases hF with
  |cons g hb hc hi2 ht hrf t=>
   have hmb:=AU hb
   have cm:=Gf (eD b) (by show b.recs.length≤_;omega) (by show(0:Nat)≤_;omega)
   have hme:B9 (eD b)=true:=HE hb
   rw[hme]at cm
   have ct:=Hp q.prods b (-1) g.ok.may hb hc hi2 O O
   have cp:=T1 q b g.ok.osrt g.opens ht hrf g.bl
   have e1:(eD b).kind=0:=rfl
   have e2:(eD b).b.txn=true:=ht
   have e3:(eD b).b.pid=b.pid:=rfl
   have e4:(eD b).b.epoch=b.epoch:=rfl
   have e5:(eD b0).b.epoch=b0.epoch:=rfl
   have hq:Gc q b={q with opens:=Et Opn.pid (C1 q.opens b) q.opens,prods:=Dt q.prods (Bx q.prods b (-1))}:=by
    unfold Gc;rw[DT hc hi2 (base:= -1) ⟨by omega,by omega⟩]
   rw[hq]at t
   repeat'(first|refine An Ac J J J J J ?_|refine Ae Ac J J J ?_|refine Ag ?_|refine Ah ?_|refine Ai Ac J J ?_|(refine AP J J J J J (ht:=fun h=>?_) (hf:=fun h=>?_)<;>try exact prn)|(refine Af J (ht:=fun h=>?_) (hf:=fun h=>?_)<;>try exact prn)|refine Al ?_|refine Ao ?_|refine AD Ac J J J J J J J (A2 Aa) J ?_|refine A9 (id:=7) (m:=32) Ac Y J J J J ?_|refine A9 (id:=9) (m:=12) Ac Y J J J J ?_|refine AA J J J J ?_|refine CY ?_|(refine Fi J J J J J (ht:=fun h=>?_) (hf:=fun h=>?_)<;>try exact prn)|refine Bz J J J J J J J (A2 Aa) J ?_|refine RK Ac 13 (id:=13) (m:=14) (x0:=.agg (Aj (A5 {q with opens:=Et Opn.pid (C1 q.opens b) q.opens}))) (ys:=Aj (A5 {q with opens:=Et Opn.pid (C1 q.opens b) q.opens})) (lab:=1) (off:=0) Y J J J J J J J Y J J J J Y ?_ J|refine⟨J,J,?_⟩|refine AO J J J J J (cm) J J ?_|refine AO J J J J J (ct) J J ?_|refine AO J J J J J (cp) J J ?_)
   all_goals try(exfalso;omega)
   all_goals refine AF (i+1,_) ⟨hlt,t⟩ (by simp;omega) [6] (Ad J J (Ad J J (Ad J (by rw[A0 O O];rfl) Aq))) J
 ·have hin:i=bs.length:=by omega
  subst hin
  rw[List.drop_length]at hF
  cases hF
  repeat'(first|refine Ae Ac J J J ?_|refine Ag ?_|refine Ah ?_|refine Ai Ac J J ?_|(refine Af J (ht:=fun h=>?_) (hf:=fun h=>?_)<;>try exact prn)|refine AB ?_)
  all_goals try(exfalso;omega)
  all_goals refine Ar ?_
  all_goals exact BR [3] J J J (Sub.refl _)
end Go.Proofs.YtpdmaenhenfofaaGreatDoor
namespace Go.Proofs.YtpdmaenhenfofaaGreatDoor
open Go.Am
attribute [local irreducible] Decidable.decide
set_option maxRecDepth 100000
set_option maxHeartbeats 1000000
theorem Aai {p:Part} (g:GP p) (b:Batch) (hb:A1 b=true) (hc:B4 p.prods b=0) (hi:Cl p.prods b=false) (ht:b.txn=false) (hno: ∀o∈p.opens,o.pid≠b.pid):Ct Tryz.prog 89 [.ref 1 0,.agg (Aj (A4 (eD b)))] [(1,.cells (fdC p EU))] (.t (.bool true)) [(1,.cells (fdC (Co p b) EU))]:=by
 have cp:=Ol p b g.ok g.opens (by have:=g.rows;omega) hb hc hi ht hno
 have ek:(eD b).kind=0:=rfl
 generalize Co p b=q at*
 refine ct1 Ac Tryz.func89 J J ?_
 repeat'(first|refine Ae Ac J J J ?_|refine Ag ?_|refine Ah ?_|refine Ai Ac J J ?_|(refine Af J (ht:=fun h=>?_) (hf:=fun h=>?_)<;>try exact prn)|refine Al ?_|refine AA J J J J ?_|refine CY ?_|refine RK Ac 13 (id:=4) (m:=14) (x0:=.agg (Aj (A5 q))) (ys:=Aj (A5 q)) (lab:=1) (off:=0) Y J J J J J J J Y J J J J Y ?_ J|refine⟨J,J,?_⟩|refine AO J J J J J (cp) J J ?_)
 all_goals try(exfalso;omega)
 all_goals refine Ar ?_
 all_goals exact BR [3] J J J (Sub.refl _)
theorem Aaj {p:Part} (g:GP p) (n:Int) (h1:p.start≤n) (h2:n≤p.fin):Ct Tryz.prog 89 [.ref 1 0,.agg (Aj (A4 (eC n)))] [(1,.cells (fdC p EU))] (.t (.bool true)) [(1,.cells (fdC (LW p n) EU))]:=by
 have cp:=UZ p n h1 h2 (by have:=g.rows;omega)
 have ek:(eC n).kind=2:=rfl
 generalize LW p n=q at*
 refine ct1 Ac Tryz.func89 J J ?_
 repeat'(first|refine Ae Ac J J J ?_|refine Ag ?_|refine Ah ?_|refine Ai Ac J J ?_|(refine Af J (ht:=fun h=>?_) (hf:=fun h=>?_)<;>try exact prn)|refine Al ?_|refine Ao ?_|refine AA J J J J ?_|refine CY ?_|refine RK Ac 12 (id:=10) (m:=13) (x0:=.agg (Aj (A5 q))) (ys:=Aj (A5 q)) (lab:=1) (off:=0) Y J J J J J J J Y J J J J Y ?_ J|refine⟨J,J,?_⟩|refine AO J J J J J (cp) J J ?_)
 all_goals try(exfalso;omega)
 all_goals refine Ar ?_
 all_goals exact BR [3] J J J (Sub.refl _)
theorem Aah (p:Part) (pid epoch next:Int) (hm:BO p.prods=true) (h:CK p.prods pid=true→(AX p.prods pid).epoch<epoch∨((AX p.prods pid).epoch=epoch∧(AX p.prods pid).next≤next)):Ct Tryz.prog 89 [.ref 1 0,.agg (Aj (A4 (eX pid epoch next)))] [(1,.cells (fdC p EU))] (.t (.bool true)) [(1,.cells (fdC (UV p pid epoch next) EU))]:=by
 have cd:=S9 p pid epoch next hm h
 have ek:(eX pid epoch next).kind=4:=rfl
 refine ct1 Ac Tryz.func89 J J ?_
 repeat'(first|refine Ae Ac J J J ?_|refine Ag ?_|refine Ah ?_|refine Ai Ac J J ?_|(refine Af J (ht:=fun h=>?_) (hf:=fun h=>?_)<;>try exact prn)|refine Al ?_|refine A7 Ac [(1,1)] [(1,1)] J J J J J cd J J J J J ?_)
 all_goals try(exfalso;omega)
 all_goals refine Ar ?_
 all_goals exact BR [3] J J J (Sub.refl _)
theorem Aag (p:Part) (b:Batch) (hb:A1 b=true):Ct Tryz.prog 89 [.ref 1 0,.agg (Aj (A4 (eY b false 0)))] [(1,.cells (fdC p EU))] (.t (.bool true)) [(1,.cells (fdC p (.row 66 2 0 1))),(66,.grow 2 [wT b.pid [b]])]:=by
 have cd:=W6 p b hb
 have ek:(eY b false 0).kind=3:=rfl
 refine ct1 Ac Tryz.func89 J J ?_
 repeat'(first|refine Ae Ac J J J ?_|refine Ag ?_|refine Ah ?_|refine Ai Ac J J ?_|(refine Af J (ht:=fun h=>?_) (hf:=fun h=>?_)<;>try exact prn)|refine Al ?_|refine A7 Ac [(1,1)] [(66,66),(1,1)] J J J J J cd J J J J J ?_)
 all_goals try(exfalso;omega)
 all_goals refine Tr.swapS J ?_
 all_goals refine Ar ?_
 all_goals exact BR [3] J J J (Sub.refl _)
theorem Aaf (p:Part) (b:Batch) (hb:A1 b=true) (bs:List Batch) (b0:Batch) (h0:bs[0]?=some b0) (he:b0.epoch=b.epoch) (h8:bs.length<8):Ct Tryz.prog 89 [.ref 1 0,.agg (Aj (A4 (eY b false 0)))] [(1,.cells (fdC p (.row 3 2 0 1))),(3,.grow 2 [wT b.pid bs])] (.t (.bool true)) [(1,.cells (fdC p (.row 3 2 0 1))),(3,.grow 2 [wT b.pid (bs++[b])])]:=by
 have cd:=W5 p b hb bs b0 h0 he h8
 have ek:(eY b false 0).kind=3:=rfl
 refine ct1 Ac Tryz.func89 J J ?_
 repeat'(first|refine Ae Ac J J J ?_|refine Ag ?_|refine Ah ?_|refine Ai Ac J J ?_|(refine Af J (ht:=fun h=>?_) (hf:=fun h=>?_)<;>try exact prn)|refine Al ?_|refine A7 Ac [(1,1),(3,3)] [(1,1),(3,3)] J J J J J cd J J J J J ?_)
 all_goals try(exfalso;omega)
 all_goals refine Ar ?_
 all_goals exact BR [3] J J J (Sub.refl _)
theorem Aae (p:Part) (b:Batch) (hb:A1 b=true) (bs:List Batch) (b0:Batch) (h0:bs[0]?=some b0) (he:b0.epoch=b.epoch) (h8:bs.length<8) (r:Part) (hT:TA p (bs++[b]) r) (hrm:BO r.prods=true):Ct Tryz.prog 89 [.ref 1 0,.agg (Aj (A4 (eY b true (Bo b))))] [(1,.cells (fdC p (.row 3 2 0 1))),(3,.grow 2 [wT b.pid bs])] (.t (.bool true)) [(1,.cells (fdC {r with prods:=Cr r.prods b.pid} EU)),(3,.grow 2 [wT b.pid (bs++[b])])]:=by
 have cd:=W4 p b hb bs b0 h0 he h8 r hT hrm
 have ek:(eY b true (Bo b)).kind=3:=rfl
 refine ct1 Ac Tryz.func89 J J ?_
 repeat'(first|refine Ae Ac J J J ?_|refine Ag ?_|refine Ah ?_|refine Ai Ac J J ?_|(refine Af J (ht:=fun h=>?_) (hf:=fun h=>?_)<;>try exact prn)|refine Al ?_|refine A7 Ac [(1,1),(3,3)] [(1,1),(3,3)] J J J J J cd J J J J J ?_)
 all_goals try(exfalso;omega)
 all_goals refine Ar ?_
 all_goals exact BR [3] J J J (Sub.refl _)
theorem Aad (p:Part) (b:Batch) (hb:A1 b=true) (r:Part) (hT:TA p ([]++[b]) r) (hrm:BO r.prods=true):Ct Tryz.prog 89 [.ref 1 0,.agg (Aj (A4 (eY b true (Bo b))))] [(1,.cells (fdC p EU))] (.t (.bool true)) [(1,.cells (fdC {r with prods:=Cr r.prods b.pid} EU))]:=by
 have cd:=W3 p b hb r hT hrm
 have ek:(eY b true (Bo b)).kind=3:=rfl
 refine ct1 Ac Tryz.func89 J J ?_
 repeat'(first|refine Ae Ac J J J ?_|refine Ag ?_|refine Ah ?_|refine Ai Ac J J ?_|(refine Af J (ht:=fun h=>?_) (hf:=fun h=>?_)<;>try exact prn)|refine Al ?_|refine A7 Ac [(1,1)] [(1,1)] J J J J J cd J J J J J ?_)
 all_goals try(exfalso;omega)
 all_goals refine Ar ?_
 all_goals exact BR [3] J J J (Sub.refl _)
end Go.Proofs.YtpdmaenhenfofaaGreatDoor
namespace Go.Proofs.YtpdmaenhenfofaaGreatDoor
open Go.Am
attribute [local irreducible] Decidable.decide
set_option maxRecDepth 100000
set_option maxHeartbeats 1000000
def Acv (bs:List Batch):Int:=(bs.head?.map Batch.pid).getD 0
inductive N2:Part→Option (List Batch)→Entry→Part→Option (List Batch)→Prop
 |P {p:Part} (g:GP p) (b:Batch) (hb:A1 b=true) (hc:B4 p.prods b=0) (hi:Cl p.prods b=false) (ht:b.txn=false) (hno: ∀o∈p.opens,o.pid≠b.pid):N2 p none (eD b) (Co p b) none
 |C {p:Part} (g:GP p) (n:Int) (h1:p.start≤n) (h2:n≤p.fin):N2 p none (eC n) (LW p n) none
 |X {p:Part} (pid epoch next:Int) (hm:BO p.prods=true) (h:CK p.prods pid=true→(AX p.prods pid).epoch<epoch∨((AX p.prods pid).epoch=epoch∧(AX p.prods pid).next≤next)):N2 p none (eX pid epoch next) (UV p pid epoch next) none
 |a {p:Part} (b:Batch) (hb:A1 b=true):N2 p none (eY b false 0) p (some [b])
 |b {p:Part} (b:Batch) (hb:A1 b=true) (bs:List Batch) (b0:Batch) (h0:bs[0]?=some b0) (he:b0.epoch=b.epoch) (hp:Acv bs=b.pid) (h8:bs.length<8):N2 p (some bs) (eY b false 0) p (some (bs++[b]))
 |c {p r:Part} (b:Batch) (hb:A1 b=true) (bs:List Batch) (b0:Batch) (h0:bs[0]?=some b0) (he:b0.epoch=b.epoch) (hp:Acv bs=b.pid) (h8:bs.length<8) (hT:TA p (bs++[b]) r) (hrm:BO r.prods=true):N2 p (some bs) (eY b true (Bo b)) {r with prods:=Cr r.prods b.pid} none
 |d {p r:Part} (b:Batch) (hb:A1 b=true) (hT:TA p ([]++[b]) r) (hrm:BO r.prods=true):N2 p none (eY b true (Bo b)) {r with prods:=Cr r.prods b.pid} none
inductive F2:Part→Option (List Batch)→List Entry→Part→Option (List Batch)→Prop
 |nil (p:Part) (W:Option (List Batch)):F2 p W [] p W
 |cons {p q r:Part} {W V U:Option (List Batch)} {x:Entry} {l:List Entry} (h:N2 p W x q V) (hm:B9 x=true) (hs:x.b.recs.length≤1000000∧x.prod.seen.length≤1000000) (hq:q.fin≤1048576) (t:F2 q V l r U):F2 p W (x::l) r U
theorem F2.snoc {p q r:Part} {W V U:Option (List Batch)} {x:Entry} {l:List Entry} (t:F2 p W l q V) (h:N2 q V x r U) (hm:B9 x=true) (hs:x.b.recs.length≤1000000∧x.prod.seen.length≤1000000) (hq:r.fin≤1048576):F2 p W (l++[x]) r U:=by
 induction t with
 |nil p W=>exact .cons h hm hs hq (.nil _ _)
 |cons h1 hm1 hs1 hq1 _ ih=>exact .cons h1 hm1 hs1 hq1 (ih h)
inductive SS:Part→List (Int×List Batch)→Part→Prop
 |nil (p:Part):SS p [] p
 |cons {p q r:Part} {pid:Int} {bs:List Batch} {b0:Batch} {l:List (Int×List Batch)} (h0:bs[0]?=some b0) (hl:bs.length≤8) (hall: ∀b∈bs,b.pid=pid∧b.epoch=b0.epoch) (hT:TS p bs q) (t:SS q l r):SS p ((pid,bs)::l) r
def PV (s:Int×List Batch):List T:=S7 s.1 s.2
def fdS (p:Part):Option (List Batch)→St
 |none=>[(22,.cells (fdC p EU)),(8,.cells (Aj F8.zero))]
 |some bs=>[(22,.cells (fdC p (.row 66 2 0 1))),(66,.grow 2 [wT (Acv bs) bs]),(8,.cells (Aj F8.zero))]
theorem YA (l:List Entry) (ss:List (Int×List Batch)) (p r:Part) (h:F2 Cq none l p none) (hl:l.length≤1000000) (hS:SS p ss r) (hsl:ss.length≤1000000) (hsr:ss.Pairwise (fun a b=>a.1<b.1)):Ct Tryz.prog 51 [.t (.slice .any 18 (l.map A4)),.t (.slice .any 2 (ss.map PV))] [] (.tuple [.agg (Aj (A5 r)),.t (.int .i64 0)]) []:=by
 have hlm:(l.map A4).length=l.length:=List.length_map ..
 have hsm:(ss.map PV).length=ss.length:=List.length_map ..
 refine ct0 Ac Tryz.func51 J false J J ?_
 repeat'(first|refine Ae Ac J J J ?_|refine Ag ?_|refine Ah ?_|refine Ai Ac J J ?_|refine Al ?_)
 refine Tr.weakC (cs':=fdC Cq EU) 22 J ⟨Sub.refl _,Sub.refl _,A6,A6,A6,Sub.refl _,trivial⟩ ?_
 refine AM (ι:=Nat×Part×Option (List Batch)) (fun x=>x.1≤l.length∧F2 x.2.1 x.2.2 (l.drop x.1) p none) (fun x=>[(0,.t (.slice .any 18 (l.map A4))),(1,.t (.slice .any 2 (ss.map PV))),(4,.ref 8 0),(6,.ref 22 0),(7,.t (.int .i64 x.1))]) (fun x=>fdS x.2.1 x.2.2) (fun x=>l.length-x.1) (0,Cq,none) ⟨by simp,h⟩ ?_ ?_
 ·exact AR [] (Ad J J (Ad J J (Ad J J (Ad J J (Ad J J Aq))))) J
 rintro⟨i,a,W⟩ ⟨hi,hF⟩
 simp only at hi hF
 by_cases hlt:i<l.length
 ·have hr:l[i]?=some l[i]:=List.getElem?_eq_getElem hlt
  generalize l[i]=x at hr
  rw[BE hr]at hF
  cases hF with
  |cons hN hm hs hq t=>
   have cm:=Gf x hs.1 hs.2
   rw[hm]at cm
   cases hN with
   |P g b hb hc hi2 ht hno=>
    have cd:=Aai g b hb hc hi2 ht hno
    repeat'(first|refine Ae Ac J J J ?_|refine Ag ?_|refine Ah ?_|refine Ai Ac J J ?_|(refine AP J J J J J (ht:=fun h=>?_) (hf:=fun h=>?_)<;>try exact prn)|(refine Af J (ht:=fun h=>?_) (hf:=fun h=>?_)<;>try exact prn)|refine Al ?_|refine Ao ?_|refine AD Ac J J J J J J J (A2 Aa) J ?_|refine Ak Ac J J J J J J J (cm) J J ?_|refine A7 Ac [(22,1)] [(1,22)] J J J J J cd J J J J J ?_)
    all_goals try(exfalso;omega)
    all_goals refine AF (i+1,_,none) ⟨hlt,t⟩ (by simp;omega) [] (Ad J J (Ad J J (Ad J J (Ad J J (Ad J (by rw[A0 O O];rfl) Aq))))) J
   |C g n h1 h2=>
    have cd:=Aaj g n h1 h2
    repeat'(first|refine Ae Ac J J J ?_|refine Ag ?_|refine Ah ?_|refine Ai Ac J J ?_|(refine AP J J J J J (ht:=fun h=>?_) (hf:=fun h=>?_)<;>try exact prn)|(refine Af J (ht:=fun h=>?_) (hf:=fun h=>?_)<;>try exact prn)|refine Al ?_|refine Ao ?_|refine AD Ac J J J J J J J (A2 Aa) J ?_|refine Ak Ac J J J J J J J (cm) J J ?_|refine A7 Ac [(22,1)] [(1,22)] J J J J J cd J J J J J ?_)
    all_goals try(exfalso;omega)
    all_goals refine AF (i+1,_,none) ⟨hlt,t⟩ (by simp;omega) [] (Ad J J (Ad J J (Ad J J (Ad J J (Ad J (by rw[A0 O O];rfl) Aq))))) J
   |X pid epoch next hm2 h2=>
    have cd:=Aah a pid epoch next hm2 h2
    repeat'(first|refine Ae Ac J J J ?_|refine Ag ?_|refine Ah ?_|refine Ai Ac J J ?_|(refine AP J J J J J (ht:=fun h=>?_) (hf:=fun h=>?_)<;>try exact prn)|(refine Af J (ht:=fun h=>?_) (hf:=fun h=>?_)<;>try exact prn)|refine Al ?_|refine Ao ?_|refine AD Ac J J J J J J J (A2 Aa) J ?_|refine Ak Ac J J J J J J J (cm) J J ?_|refine A7 Ac [(22,1)] [(1,22)] J J J J J cd J J J J J ?_)
    all_goals try(exfalso;omega)
    all_goals refine AF (i+1,_,none) ⟨hlt,t⟩ (by simp;omega) [] (Ad J J (Ad J J (Ad J J (Ad J J (Ad J (by rw[A0 O O];rfl) Aq))))) J
   |a b hb=>
    have cd:=Aag a b hb
    repeat'(first|refine Ae Ac J J J ?_|refine Ag ?_|refine Ah ?_|refine Ai Ac J J ?_|(refine AP J J J J J (ht:=fun h=>?_) (hf:=fun h=>?_)<;>try exact prn)|(refine Af J (ht:=fun h=>?_) (hf:=fun h=>?_)<;>try exact prn)|refine Al ?_|refine Ao ?_|refine AD Ac J J J J J J J (A2 Aa) J ?_|refine Ak Ac J J J J J J J (cm) J J ?_|refine A7 Ac [(22,1)] [(1,22),(66,66)] J J J J J cd J J J J J ?_)
    all_goals try(exfalso;omega)
    all_goals refine AF (i+1,a,some [b]) ⟨hlt,t⟩ (by simp;omega) [] (Ad J J (Ad J J (Ad J J (Ad J J (Ad J (by rw[A0 O O];rfl) Aq))))) J
   |b b hb bs b0 h0 he hp h8=>
    have hp2:Acv (bs++[b])=b.pid:=by cases bs with|nil=>simp at h0|cons y ys=>exact hp
    rw[show fdS a (some bs)=[(22,.cells (fdC a (.row 66 2 0 1))),(66,.grow 2 [wT b.pid bs]),(8,.cells (Aj F8.zero))]by simp[fdS,hp]]
    have hS2:fdS a (some (bs++[b]))=[(22,.cells (fdC a (.row 66 2 0 1))),(66,.grow 2 [wT b.pid (bs++[b])]),(8,.cells (Aj F8.zero))]:=by simp[fdS,hp2]
    have cd:=Aaf a b hb bs b0 h0 he h8
    repeat'(first|refine Ae Ac J J J ?_|refine Ag ?_|refine Ah ?_|refine Ai Ac J J ?_|(refine AP J J J J J (ht:=fun h=>?_) (hf:=fun h=>?_)<;>try exact prn)|(refine Af J (ht:=fun h=>?_) (hf:=fun h=>?_)<;>try exact prn)|refine Al ?_|refine Ao ?_|refine AD Ac J J J J J J J (A2 Aa) J ?_|refine Ak Ac J J J J J J J (cm) J J ?_|refine A7 Ac [(22,1),(66,3)] [(1,22),(3,66)] J J J J J cd J J J J J ?_)
    all_goals try(exfalso;omega)
    all_goals refine AF (i+1,a,some (bs++[b])) ⟨hlt,t⟩ (by simp;omega) [] (Ad J J (Ad J J (Ad J J (Ad J J (Ad J (by rw[A0 O O];rfl) Aq))))) (by rw[hS2];rfl)
   |c b hb bs b0 h0 he hp h8 hT hrm=>
    rw[show fdS a (some bs)=[(22,.cells (fdC a (.row 66 2 0 1))),(66,.grow 2 [wT b.pid bs]),(8,.cells (Aj F8.zero))]by simp[fdS,hp]]
    have cd:=Aae a b hb bs b0 h0 he h8 _ hT hrm
    repeat'(first|refine Ae Ac J J J ?_|refine Ag ?_|refine Ah ?_|refine Ai Ac J J ?_|(refine AP J J J J J (ht:=fun h=>?_) (hf:=fun h=>?_)<;>try exact prn)|(refine Af J (ht:=fun h=>?_) (hf:=fun h=>?_)<;>try exact prn)|refine Al ?_|refine Ao ?_|refine AD Ac J J J J J J J (A2 Aa) J ?_|refine Ak Ac J J J J J J J (cm) J J ?_|refine A7 Ac [(22,1),(66,3)] [(1,22),(3,66)] J J J J J cd J J J J J ?_)
    all_goals try(exfalso;omega)
    all_goals refine AF (i+1,_,none) ⟨hlt,t⟩ (by simp;omega) [33] (Ad J J (Ad J J (Ad J J (Ad J J (Ad J (by rw[A0 O O];rfl) Aq))))) J
   |d b hb hT hrm=>
    have cd:=Aad a b hb _ hT hrm
    repeat'(first|refine Ae Ac J J J ?_|refine Ag ?_|refine Ah ?_|refine Ai Ac J J ?_|(refine AP J J J J J (ht:=fun h=>?_) (hf:=fun h=>?_)<;>try exact prn)|(refine Af J (ht:=fun h=>?_) (hf:=fun h=>?_)<;>try exact prn)|refine Al ?_|refine Ao ?_|refine AD Ac J J J J J J J (A2 Aa) J ?_|refine Ak Ac J J J J J J J (cm) J J ?_|refine A7 Ac [(22,1)] [(1,22)] J J J J J cd J J J J J ?_)
    all_goals try(exfalso;omega)
    all_goals refine AF (i+1,_,none) ⟨hlt,t⟩ (by simp;omega) [] (Ad J J (Ad J J (Ad J J (Ad J J (Ad J (by rw[A0 O O];rfl) Aq))))) J
 ·have hin:i=l.length:=by omega
  subst hin
  rw[List.drop_length]at hF
  cases hF
  repeat'(first|refine Ae Ac J J J ?_|refine Ag ?_|refine Ah ?_|refine Ai Ac J J ?_|(refine Af J (ht:=fun h=>?_) (hf:=fun h=>?_)<;>try exact prn)|refine Al ?_|refine AB ?_)
  all_goals try(exfalso;omega)
  refine AM (ι:=Nat×Part) (fun x=>x.1≤ss.length∧SS x.2 (ss.drop x.1) r) (fun x=>[(1,.t (.slice .any 2 (ss.map PV))),(4,.ref 8 0),(6,.ref 22 0),(8,.t (.int .i64 x.1))]) (fun x=>fdS x.2 none) (fun x=>ss.length-x.1) (0,p) ⟨by simp,hS⟩ ?_ ?_
  ·exact AR [] (Ad J J (Ad J J (Ad J J (Ad J J Aq)))) J
  rintro⟨i,q⟩ ⟨hi,hF⟩
  simp only at hi hF
  by_cases hlt:i<ss.length
  ·have hr:ss[i]?=some ss[i]:=List.getElem?_eq_getElem hlt
   have hs1: ∀s1:Int×List Batch,0<i→ss[i-1]?=some s1→s1.1<ss[i].1:=fun s1 h0 h1=>by
    have h2:=(List.getElem?_eq_some_iff.1 h1).2
    have:=List.pairwise_iff_getElem.1 hsr (i-1) i O hlt O
    rwa[h2]at this
   generalize ss[i]=s at hr hs1
   rcases s with⟨pid,bs⟩
   rw[BE hr]at hF
   cases hF with
   |cons h0 hl8 hall hT t=>
    have cd:=XM q _ pid bs _ h0 hl8 hall hT
    by_cases hi0:i=0
    ·subst hi0
     repeat'(first|refine Ae Ac J J J ?_|refine Ag ?_|refine Ah ?_|refine Ai Ac J J ?_|(refine AP J J J J J (ht:=fun h=>?_) (hf:=fun h=>?_)<;>try exact prn)|(refine Af J (ht:=fun h=>?_) (hf:=fun h=>?_)<;>try exact prn)|refine Al ?_|refine Ao ?_|refine A9 (id:=10) (m:=22) Ac Y J J J J ?_|refine AA J J J J ?_|(refine EQ J J J J J (ht:=fun h=>?_) (hf:=fun h=>?_)<;>try exact prn)|(refine Fi J J J J J (ht:=fun h=>?_) (hf:=fun h=>?_)<;>try exact prn)|refine Bz J J J J J J J (A2 Aa) J ?_|refine A7 Ac [(22,1)] [(1,22)] J J J J J cd J J J J J ?_)
     all_goals try(exfalso;omega)
     all_goals refine AF (0+1,_) ⟨hlt,t⟩ (by simp;omega) [] (Ad J J (Ad J J (Ad J J (Ad J (by rw[A0 O O];rfl) Aq)))) J
    ·have hr1:ss[i-1]?=some (ss[i-1]' O):=List.getElem?_eq_getElem _
     have hlt1:=hs1 _ O hr1
     generalize ss[i-1]' O=s1 at hr1 hlt1
     have hw:IntKind.i64.wrap ((i:Int)-1)=((i-1:Nat):Int):=by rw[A0 O O];omega
     simp only at hlt1
     repeat'(first|refine Ae Ac J J J ?_|refine Ag ?_|refine Ah ?_|refine Ai Ac J J ?_|(refine AP J J J J J (ht:=fun h=>?_) (hf:=fun h=>?_)<;>try exact prn)|(refine Af J (ht:=fun h=>?_) (hf:=fun h=>?_)<;>try exact prn)|refine Al ?_|refine Ao ?_|refine A9 (id:=10) (m:=22) Ac Y J J J J ?_|refine AA J J J J ?_|(refine EQ J J J J J (ht:=fun h=>?_) (hf:=fun h=>?_)<;>try exact prn)|(refine Fi J J J J J (ht:=fun h=>?_) (hf:=fun h=>?_)<;>try exact prn)|refine Bz J J J J J J J (A2 Aa) J ?_|refine Hs J J J J J J J Aa (A2 Aa) J ?_|refine A7 Ac [(22,1)] [(1,22)] J J J J J cd J J J J J ?_)
     all_goals try(exfalso;omega)
     all_goals refine AF (i+1,_) ⟨hlt,t⟩ (by simp;omega) [] (Ad J J (Ad J J (Ad J J (Ad J (by rw[A0 O O];rfl) Aq)))) J
  ·have hin:i=ss.length:=by omega
   subst hin
   rw[List.drop_length]at hF
   cases hF
   have hz:((([]:List (List T)).length:Nat):Int)=0:=rfl
   repeat'(first|refine Ae Ac J J J ?_|refine Ag ?_|refine Ah ?_|refine Ai Ac J J ?_|(refine Af J (ht:=fun h=>?_) (hf:=fun h=>?_)<;>try exact prn)|refine Al ?_|refine AB ?_)
   all_goals try(exfalso;omega)
   refine AM (ι:=Unit) (fun _=>True) (fun _=>[(4,.ref 8 0),(6,.ref 22 0),(9,.t (.int .i64 0))]) (fun _=>fdS r none) (fun _=>0) () trivial ?_ ?_
   ·exact AR [] (Ad J J (Ad J J (Ad J J Aq))) J
   rintro _ _
   repeat'(first|refine An Ac J J J J J ?_|refine Ae Ac J J J ?_|refine Ag ?_|refine Ah ?_|refine Ai Ac J J ?_|(refine Af J (ht:=fun h=>?_) (hf:=fun h=>?_)<;>try exact prn)|refine AB ?_)
   all_goals try(exfalso;omega)
   all_goals refine Ar ?_
   all_goals exact Au J (Sub.of_eq J)
end Go.Proofs.YtpdmaenhenfofaaGreatDoor
