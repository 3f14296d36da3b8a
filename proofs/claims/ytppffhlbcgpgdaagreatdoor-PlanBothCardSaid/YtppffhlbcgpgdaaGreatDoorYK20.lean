/- Lemmas toward the law; each names its conditions. -/
import Derived.Test.YtppffhlbcgpgdaaGreatDoorYW1
set_option linter.all false
set_option maxRecDepth 100000
set_option maxHeartbeats 8000000
namespace Go.Proofs.YtppffhlbcgpgdaaGreatDoor
open Go.Am
attribute [local irreducible] Decidable.decide Tr A6 CG EJ
structure RS where
 q:Req
 b:Bs
 err:Option (Bs×Int)
def A2c:Option (Bs×Int)->T
 |none=>.nilIface
 |some p=>.iface 149 (.ptr [.str p.1,.int .i64 p.2])
def IG (s:RS):List AV:=.t .nilPtr::(Af (A7 s.q)++[.t (.slice .any 1 (s.b.map Ba)),.t (A2c s.err)])
def wS (s:RS):St:=[(1,.cells (IG s))]
theorem EF (q:Req) (b f:Bs) (n:Int):A3z 172 [.ref 1 0,.t (.str f),.t (.int .i64 n)] (wS ⟨q,b,none⟩) (.tuple []) (wS ⟨q,b,some (f,n)⟩):=by
 refine yG Tryz.func172 ?_
 repeat'(first|exact Au|refine yC ?_ ?_|refine⟨λh=>?_⟩|fail)
 all_goals exact AE [] Y Y Y (A3l _)
def A0a (k:Nat) (q:Req):Int:=if k=0 then q.mY else if k=1 then q.mZ else if k=2 then q.lO else if k=3 then q.lT else if k=4 then q.part else if k=5 then q.sZ else if k=6 then q.offset else q.most
def zF:Nat->Req->Req
 |0,q=>{q with mY:=0}
 |1,q=>{q with mZ:=0}
 |2,q=>{q with lO:=0}
 |3,q=>{q with lT:=0}
 |4,q=>{q with part:=0}
 |5,q=>{q with sZ:=0}
 |6,q=>{q with offset:=0}
 |7,q=>{q with most:=0}
 |8,q=>{q with oC:=false}
 |_,q=>{q with b:=Nf}
def B7:Nat->Int
 |0=>0
 |1=>1
 |2=>1
 |3=>0
 |4=>0
 |5=>0
 |6=>0
 |_=>1
def Cm:Nat->Int
 |0=>2
 |1=>20
 |2=>8
 |3=>100
 |4=>2
 |5=>1
 |6=>1048576
 |_=>64
def ZT:Nat->Bs
 |0=>[84,105,100]
 |1=>[84,105,109,101,111,117,116]
 |2=>[80,105,100]
 |3=>[69,112,111,99,104]
 |4=>[80,97,114,116]
 |5=>[71,114,111,117,112]
 |6=>[79,102,102,115,101,116]
 |7=>[77,111,115,116]
 |_=>[66]
def Tv:Nat->Nat
 |0=>162
 |1=>163
 |2=>166
 |3=>167
 |4=>164
 |5=>171
 |6=>169
 |7=>170
 |8=>168
 |_=>165
theorem A5l (k:Nat) (hk:k<8) (q:Req) (b f:Bs) (lo hi:Int) (h0:0<=lo) (h1:hi<=1099511627776) (hb:b.length<=1000000) (h:lo<=A0a k q/\A0a k q<=hi):A3z 218 [.ref 1 0,.t (.str f),.ref 1 (k+2),.t (.int .i64 lo),.t (.int .i64 hi)] (wS ⟨q,b,none⟩) (.tuple []) (wS ⟨zF k q,b++Bp (A0a k q).toNat,none⟩):=by
 have c:=Cd b (A0a k q) Aa Aa Aa;obtain rfl|rfl|rfl|rfl|rfl|rfl|rfl|rfl:k=0\/k=1\/k=2\/k=3\/k=4\/k=5\/k=6\/k=7:=Aa
 all_goals
  simp only[A0a,reduceIte,Nat.reduceEqDiff]at h c⊢;refine yG Tryz.func218 ?_
  repeat'(first|exact Au|refine yC ?_ ?_|refine⟨λh=>?_⟩|refine B5 4 12 ?_|fail)
  all_goals first
   |exact AE [] Y Y Y (A3l _)
   |exact A0 [] Y Y Y (A3l _)
   |(exfalso;dsimp only at*;omega)
theorem A5k (k:Nat) (hk:k<8) (q:Req) (b f:Bs) (lo hi:Int) (h: ¬(lo<=A0a k q/\A0a k q<=hi)):A3z 218 [.ref 1 0,.t (.str f),.ref 1 (k+2),.t (.int .i64 lo),.t (.int .i64 hi)] (wS ⟨q,b,none⟩) (.tuple []) (wS ⟨q,b,some (f,2)⟩):=by
 obtain rfl|rfl|rfl|rfl|rfl|rfl|rfl|rfl:k=0\/k=1\/k=2\/k=3\/k=4\/k=5\/k=6\/k=7:=Aa
 all_goals
  simp only[A0a,reduceIte,Nat.reduceEqDiff]at h⊢;refine yG Tryz.func218 ?_
  repeat'(first|exact Au|refine yC ?_ ?_|refine⟨λh=>?_⟩|refine B5 4 12 ?_|refine BT [(1,1)] [(1,1)] (EF q b f 2) ?_|fail)
  all_goals first
   |exact AE [] Y Y Y (A3l _)
   |exact A0 [] Y Y Y (A3l _)
   |(exfalso;dsimp only at*;omega)
theorem A20 (k:Nat):0<=B7 k/\Cm k<=1048576:=by
 unfold B7 Cm
 repeat' split
 all_goals omega
theorem A4b (k:Nat) (hk:k<8) (q:Req) (b:Bs) (hb:b.length<=1000000) (h:B7 k<=A0a k q/\A0a k q<=Cm k):A3z (Tv k) [.ref 1 0] (wS ⟨q,b,none⟩) (.tuple []) (wS ⟨zF k q,b++Bp (A0a k q).toNat,none⟩):=by
 have c:=A5l k hk q b (ZT k) (B7 k) (Cm k) (A20 k).1 (by have:=(A20 k).2;omega) hb h;obtain rfl|rfl|rfl|rfl|rfl|rfl|rfl|rfl:k=0\/k=1\/k=2\/k=3\/k=4\/k=5\/k=6\/k=7:=Aa
 all_goals
  first
   |refine yG Tryz.func162 ?_
   |refine yG Tryz.func163 ?_
   |refine yG Tryz.func166 ?_
   |refine yG Tryz.func167 ?_
   |refine yG Tryz.func164 ?_
   |refine yG Tryz.func171 ?_
   |refine yG Tryz.func169 ?_
   |refine yG Tryz.func170 ?_
  repeat'(first|exact Au|refine yC ?_ ?_|refine⟨λh=>?_⟩|refine BT [(1,1)] [(1,1)] c ?_|fail)
  exact AE [] Y Y Y (A3l _)
theorem A4c (k:Nat) (hk:k<8) (q:Req) (b:Bs) (h: ¬(B7 k<=A0a k q/\A0a k q<=Cm k)):A3z (Tv k) [.ref 1 0] (wS ⟨q,b,none⟩) (.tuple []) (wS ⟨q,b,some (ZT k,2)⟩):=by
 have c:=A5k k hk q b (ZT k) (B7 k) (Cm k) h;obtain rfl|rfl|rfl|rfl|rfl|rfl|rfl|rfl:k=0\/k=1\/k=2\/k=3\/k=4\/k=5\/k=6\/k=7:=Aa
 all_goals
  first
   |refine yG Tryz.func162 ?_
   |refine yG Tryz.func163 ?_
   |refine yG Tryz.func166 ?_
   |refine yG Tryz.func167 ?_
   |refine yG Tryz.func164 ?_
   |refine yG Tryz.func171 ?_
   |refine yG Tryz.func169 ?_
   |refine yG Tryz.func170 ?_
  repeat'(first|exact Au|refine yC ?_ ?_|refine⟨λh=>?_⟩|refine BT [(1,1)] [(1,1)] c ?_|fail)
  exact AE [] Y Y Y (A3l _)
theorem Aph (q:Req) (b:Bs) (hb:b.length<=1000000):A3z 168 [.ref 1 0] (wS ⟨q,b,none⟩) (.tuple []) (wS ⟨{q with oC:=false},b++DB q.oC,none⟩):=by
 refine yG Tryz.func168 ?_
 repeat'(first|exact Au|refine yC ?_ ?_|refine⟨λh=>?_⟩|refine D4 2 15 [(14,1)] [0,0,0,4,12,28,0,64,192,448,960,2044,4093,8189,16381,32767,65535,131071,262143] ?_|refine Mo (JF b q.oC Aa) ?_|fail)
 all_goals exact AE [] Y Y Y (A3l _)
def L7 (f:Nat):AV:=.func (.func f) [.ref 1 0] []
theorem UK (c j:Nat): ∀X:List AV,Gu c (X++List.replicate j .top)=Gu c X++List.replicate j .top
 |[]=>by
  show Gu c (List.replicate j .top)=List.replicate j .top
  induction j with
  |zero=>rfl
  |succ j ih=>rw[A7t];simp only[Gu,ih];rfl
 |x::X=>by
  show(bif x.has c then .top else x)::Gu c (X++List.replicate j .top)=(bif x.has c then .top else x)::(Gu c X++List.replicate j .top);rw[UK c j X]
theorem Il {b c j:Nat} {X:List AV} {r r':St} (h:Nat.beq b c=false) (hr:CX c r=r'):CX c ((b,.cells (X++List.replicate j .top))::r)=(b,.cells (Gu c X++List.replicate j .top))::r':=by
 simp only[CX,h,A61,UK,hr]
theorem Apv (s:RS):A3z 109 [.ref 1 0,.t (.int .i8 1)] (wS s) (.row 60 1 0 2) [(60,.cells [L7 162,L7 163]),(1,.cells (IG s))]:=by
 refine yG Tryz.func109 ?_
 repeat'(first|exact Au|refine yA ?_ ?_|refine⟨λh=>?_⟩|refine B9 (λ_ _ _ _=>?_)|refine AY (λ_ _ _ _ _=>?_)|refine B3 ?_|refine Dw Ad ?_|refine Du Ad ?_|refine Dv Ad Y ?_|refine FT Ai Y Y Y Y Y Y ?_|fail)
 exact A0 [] Y Y Y (A3l _)
theorem Apu (s:RS):A3z 109 [.ref 1 0,.t (.int .i8 2)] (wS s) (.row 70 1 0 2) [(70,.cells [L7 164,L7 165]),(1,.cells (IG s))]:=by
 refine yG Tryz.func109 ?_
 repeat'(first|exact Au|refine yA ?_ ?_|refine⟨λh=>?_⟩|refine B9 (λ_ _ _ _=>?_)|refine AY (λ_ _ _ _ _=>?_)|refine B3 ?_|refine Dw Ad ?_|refine Du Ad ?_|refine Dv Ad Y ?_|refine FT Ai Y Y Y Y Y Y ?_|fail)
 exact A0 [] Y Y Y (A3l _)
theorem Aps (s:RS):A3z 109 [.ref 1 0,.t (.int .i8 4)] (wS s) (.row 84 1 0 3) [(84,.cells [L7 166,L7 167,L7 168]),(1,.cells (IG s))]:=by
 refine yG Tryz.func109 ?_
 repeat'(first|exact Au|refine yA ?_ ?_|refine⟨λh=>?_⟩|refine B9 (λ_ _ _ _=>?_)|refine AY (λ_ _ _ _ _=>?_)|refine B3 ?_|refine Dw Ad ?_|refine Du Ad ?_|refine Dv Ad Y ?_|refine FT Ai Y Y Y Y Y Y ?_|fail)
 exact A0 [] Y Y Y (A3l _)
theorem Apr (s:RS):A3z 109 [.ref 1 0,.t (.int .i8 5)] (wS s) (.row 102 1 0 4) [(102,.cells [L7 164,L7 169,L7 170,L7 168]),(1,.cells (IG s))]:=by
 refine yG Tryz.func109 ?_
 repeat'(first|exact Au|refine yA ?_ ?_|refine⟨λh=>?_⟩|refine B9 (λ_ _ _ _=>?_)|refine AY (λ_ _ _ _ _=>?_)|refine B3 ?_|refine Dw Ad ?_|refine Du Ad ?_|refine Dv Ad Y ?_|refine FT Ai Y Y Y Y Y Y ?_|fail)
 exact A0 [] Y Y Y (A3l _)
theorem App (s:RS):A3z 109 [.ref 1 0,.t (.int .i8 7)] (wS s) (.row 112 1 0 2) [(112,.cells [L7 171,L7 164]),(1,.cells (IG s))]:=by
 refine yG Tryz.func109 ?_
 repeat'(first|exact Au|refine yA ?_ ?_|refine⟨λh=>?_⟩|refine B9 (λ_ _ _ _=>?_)|refine AY (λ_ _ _ _ _=>?_)|refine B3 ?_|refine Dw Ad ?_|refine Du Ad ?_|refine Dv Ad Y ?_|refine FT Ai Y Y Y Y Y Y ?_|fail)
 exact A0 [] Y Y Y (A3l _)
theorem Apw (s:RS):A3z 109 [.ref 1 0,.t (.int .i8 0)] (wS s) (.t (.slice .nil 0 [])) (wS s):=by
 refine yG Tryz.func109 ?_
 repeat'(first|exact Au|refine yA ?_ ?_|refine⟨λh=>?_⟩|refine B9 (λ_ _ _ _=>?_)|refine AY (λ_ _ _ _ _=>?_)|refine B3 ?_|refine Dw Ad ?_|refine Du Ad ?_|refine Dv Ad Y ?_|fail)
 exact A0 [] Y Y Y (A3l _)
theorem Apn (s:RS):A3z 109 [.ref 1 0,.t (.int .i8 9)] (wS s) (.t (.slice .nil 0 [])) (wS s):=by
 refine yG Tryz.func109 ?_
 repeat'(first|exact Au|refine yA ?_ ?_|refine⟨λh=>?_⟩|refine B9 (λ_ _ _ _=>?_)|refine AY (λ_ _ _ _ _=>?_)|refine B3 ?_|refine Dw Ad ?_|refine Du Ad ?_|refine Dv Ad Y ?_|fail)
 exact A0 [] Y Y Y (A3l _)
theorem Apt (s:RS):Hs Tryz.prog 109 [.ref 1 0,.t (.int .i8 3)] (wS s) (λ_:Nat=>True) (λ_=>.row 126 1 0 5) (λj=>[(126,.cells ([L7 166,L7 167,L7 171,L7 164,L7 169]++List.replicate j .top)),(1,.cells (IG s))]):=by
 refine Dz Ai Tryz.func109 Y Y ?_
 repeat'(first|exact Au|refine yA ?_ ?_|refine⟨λh=>?_⟩|refine B9 (λ_ _ _ _=>?_)|refine AY (λ_ _ _ _ _=>?_)|refine B3 ?_|refine Dw Ad ?_|refine Du Ad ?_|refine Dv Ad Y ?_|refine FT Ai Y Y Y Y Y Y ?_|refine Jj Ai Y Y Y Y Y Y Y Y Y Y Y Y Ae Y Y Ae Y (λj=>?_)|refine M4 Ai Y Y Y Y Y Y Y Y Y Y Y Y Y Y Ae Ae Y Y Y Ae Y (λj=>?_)|fail)
 exact Ir j trivial [62,67,74] Y Y ((A5s (CX 148) (A5s (CX 134) (Il (by rfl) Y))).trans ((A5s (CX 148) (Il (by rfl) Y)).trans (Il (by rfl) Y))) (A3l _)
theorem Apq (s:RS):Hs Tryz.prog 109 [.ref 1 0,.t (.int .i8 6)] (wS s) (λ_:Nat=>True) (λ_=>.row 136 1 0 3) (λj=>[(136,.cells ([L7 171,L7 164,L7 169]++List.replicate j .top)),(1,.cells (IG s))]):=by
 refine Dz Ai Tryz.func109 Y Y ?_
 repeat'(first|exact Au|refine yA ?_ ?_|refine⟨λh=>?_⟩|refine B9 (λ_ _ _ _=>?_)|refine AY (λ_ _ _ _ _=>?_)|refine B3 ?_|refine Dw Ad ?_|refine Du Ad ?_|refine Dv Ad Y ?_|refine FT Ai Y Y Y Y Y Y ?_|refine Jj Ai Y Y Y Y Y Y Y Y Y Y Y Y Ae Y Y Ae Y (λj=>?_)|refine M4 Ai Y Y Y Y Y Y Y Y Y Y Y Y Y Y Ae Ae Y Y Y Ae Y (λj=>?_)|fail)
 exact Ir j trivial [67,74] Y Y ((A5s (CX 148) (Il (by rfl) Y)).trans (Il (by rfl) Y)) (A3l _)
theorem Apo (s:RS):Hs Tryz.prog 109 [.ref 1 0,.t (.int .i8 8)] (wS s) (λ_:Nat=>True) (λ_=>.row 150 1 0 2) (λj=>[(150,.cells ([L7 164,L7 169]++List.replicate j .top)),(1,.cells (IG s))]):=by
 refine Dz Ai Tryz.func109 Y Y ?_
 repeat'(first|exact Au|refine yA ?_ ?_|refine⟨λh=>?_⟩|refine B9 (λ_ _ _ _=>?_)|refine AY (λ_ _ _ _ _=>?_)|refine B3 ?_|refine Dw Ad ?_|refine Du Ad ?_|refine Dv Ad Y ?_|refine FT Ai Y Y Y Y Y Y ?_|refine Jj Ai Y Y Y Y Y Y Y Y Y Y Y Y Ae Y Y Ae Y (λj=>?_)|refine M4 Ai Y Y Y Y Y Y Y Y Y Y Y Y Y Y Ae Ae Y Y Y Ae Y (λj=>?_)|fail)
 exact Ir j trivial [74] Y Y (show CX 148 _=_ from Il (by rfl) Y) (A3l _)
theorem Aj4 (q:Req) (b:Bs) (h: ¬(0<=q.kind/\q.kind<=9)):A3z 109 [.ref 1 0,.t (.int .i8 q.kind)] (wS ⟨q,b,none⟩) (.t (.slice .nil 0 [])) (wS ⟨q,b,some ([75,105,110,100],2)⟩):=by
 refine yG Tryz.func109 ?_
 repeat'(first|exact Au|refine yA ?_ ?_|refine⟨λh=>?_⟩|refine B9 (λ_ _ _ _=>?_)|refine AY (λ_ _ _ _ _=>?_)|refine B3 ?_|refine Dw Ad ?_|refine Du Ad ?_|refine Dv Ad Y ?_|refine Ahc [(1,1)] [(1,1)] ?_ (c:=(EF q b _ 2))|fail)
 all_goals first|exact A0 [] Y Y Y (A3l _)|(exfalso;omega)
theorem Ct.weakP {P:Program} {f:Nat} {xs:List AV} {σ σ1 σ2:St} {r:AV} (h:Ct P f xs σ r σ1) (hσ:TP σ1 σ2):Ct P f xs σ r σ2:=
 ⟨h.1,λvs w g hr hi=>(h.2 vs w g hr hi).mono λe w' ⟨v,g',he,hx,hv,dC⟩=>⟨v,g',he,hx,hv,hσ.inv dC⟩⟩
theorem Zo:TR 425 1:=Zp An3
theorem Aft (s:Bs) (n:Int):A3z 273 [.t (Co 425 s n)] [] (.t (.int .i64 n)) []:=by
 refine yF Tryz.func273 ?_
 repeat'(first|exact Au|refine yA ?_ ?_|refine⟨λh=>?_⟩|refine B9 (λ_ _ _ _=>?_)|refine AY (λ_ _ _ _ _=>?_)|refine B3 ?_|refine Dw Ad ?_|refine Du Ad ?_|refine Dv Ad Y ?_|refine BT [(6,1)] [(1,6)] (Qy Zo [.str s,.int .i64 n] n 0 Y) ?_|fail)
 all_goals exact Ah Y (A3m Y)
theorem Ael (b:Batch) (hb:A4 b=false) (hl:b.rZ.length<=1000000):A3z 272 [.agg (Af (Ak b))] [] (.tuple [.t (.slice .nil 0 []),.t (Co 425 [97,32,98,97,116,99,104] 2)]) []:=by
 have cm:A3z 120 [.agg (Af (Ak b))] [] (.t (.bool false)) []:=hb▸Fk b Aa;refine yF Tryz.func272 ?_
 repeat'(first|exact Au|refine yA ?_ ?_|refine⟨λh=>?_⟩|refine B9 (λ_ _ _ _=>?_)|refine AY (λ_ _ _ _ _=>?_)|refine B3 ?_|refine Dw Ad ?_|refine Du Ad ?_|refine Dv Ad Y ?_|refine B5 19 5 ?_|fail)
 exact Ah Y (A3m Y)
theorem Aah (b:Batch) (hb:A4 b=false) (hl:b.rZ.length<=1000000):A3z 221 [.agg (Af (Ak b))] [] (.tuple [.t (.str []),.t (.int .i64 2)]) []:=by
 refine yF Tryz.func221 ?_
 repeat'(first|exact Au|refine yA ?_ ?_|refine⟨λh=>?_⟩|refine B9 (λ_ _ _ _=>?_)|refine AY (λ_ _ _ _ _=>?_)|refine B3 ?_|refine Dw Ad ?_|refine Du Ad ?_|refine Dv Ad Y ?_|refine BZ (Ael b hb hl) ?_|refine Ab0 ?_ (c:=Aft _ _)|fail)
 exact Ah Y (A3m Y)
def Tg (q:Req) (b:Bs):St:=[(1,.cells [AV.t T.nilPtr,AV.t (T.int .i8 q.kind),AV.t (T.int .i64 q.mY),AV.t (T.int .i64 q.mZ),AV.t (T.int .i64 q.lO),AV.t (T.int .i64 q.lT),AV.t (T.int .i64 q.part),AV.t (T.int .i64 q.sZ),AV.t (T.int .i64 q.offset),AV.t (T.int .i64 q.most),AV.t (T.bool q.oC),AV.t (T.int .i64 0),AV.t (T.int .i64 0),AV.t (T.int .i64 0),AV.t (T.bool false),AV.t (T.slice .nil 0 []),AV.t (T.slice .any 1 (b.map Ba)),AV.t T.nilIface])]
theorem Ao1 (q:Req) (b:Bs):TP (Tg q b) (wS ⟨{q with b:=Nf},b,none⟩):=
 ⟨⟨Y,show Fv _ _ from⟨A3l _,A3l _,A3l _,A3l _,A3l _,A3l _,A3l _,A3l _,A3l _,A3l _,A3l _,A3l _,A3l _,A3l _,A3l _,Ay,A3l _,A3l _,trivial⟩⟩,trivial⟩
theorem Afu (q:Req) (b:Bs) (hb:b.length<=1000000) (hm:A4 q.b=true):A3z 165 [.ref 1 0] (wS ⟨q,b,none⟩) (.tuple []) (wS ⟨{q with b:=Nf},b++FU (EM q.b),none⟩):=by
 have hl:=GN hm;refine Ct.weakP ?_ (Ao1 q (b++FU (EM q.b)));refine yG Tryz.func165 ?_
 repeat'(first|exact Au|refine yA ?_ ?_|refine⟨λh=>?_⟩|refine B9 (λ_ _ _ _=>?_)|refine AY (λ_ _ _ _ _=>?_)|refine B3 ?_|refine Dw Ad ?_|refine Du Ad ?_|refine Dv Ad Y ?_|refine BZ (Ux q.b hm) ?_|refine BZ (S8 b (EM q.b) Aa Aa) ?_|fail)
 all_goals first|exact AE [] Y Y Y (A3l _)|exact A0 [] Y Y Y (A3l _)
theorem Afv (q:Req) (b:Bs) (hm:A4 q.b=false) (hl:q.b.rZ.length<=1000000):A3z 165 [.ref 1 0] (wS ⟨q,b,none⟩) (.tuple []) (wS ⟨q,b,some ([66],2)⟩):=by
 refine yG Tryz.func165 ?_
 repeat'(first|exact Au|refine yA ?_ ?_|refine⟨λh=>?_⟩|refine B9 (λ_ _ _ _=>?_)|refine AY (λ_ _ _ _ _=>?_)|refine B3 ?_|refine Dw Ad ?_|refine Du Ad ?_|refine Dv Ad Y ?_|refine BZ (Aah q.b hm hl) ?_|refine Ahc [(1,1)] [(1,1)] ?_ (c:=(EF q b _ 2))|fail)
 all_goals first|exact AE [] Y Y Y (A3l _)|exact A0 [] Y Y Y (A3l _)
def CY (q:Req):Req:=
 if q.kind=1 then{q with mY:=0,mZ:=0}
 else if q.kind=2 then{q with part:=0,b:=Nf}
 else if q.kind=3 then{q with lO:=0,lT:=0,sZ:=0,part:=0,offset:=0}
 else if q.kind=4 then{q with lO:=0,lT:=0,oC:=false}
 else if q.kind=5 then{q with part:=0,offset:=0,most:=0,oC:=false}
 else if q.kind=6 then{q with sZ:=0,part:=0,offset:=0}
 else if q.kind=7 then{q with sZ:=0,part:=0}
 else if q.kind=8 then{q with part:=0,offset:=0}
 else q
def VR (q:Req) (s:RS):Prop:=(s.err=none↔B8 q=true)/\(s.err=none->s.q=CY q/\s.b.length<=10000)
theorem QB {ι:Type} {te:TE} {rs:List ResultVar} {V:ι->Prop} {r:ι->AV} {s:ι->St} {e:A2} {st s1:St} {r0 r1:AV} (i:ι) (hV:V i) (D:List Nat) (h:OB te true rs e st=some (r0,s1)) (h1:KG D [(0,r0)]=[(0,r1)]) (h2:HI D s1=s i) (hs:Aq r1 (r i)):Avv te rs V r s .normal e st:=
 ⟨.inl Y,i,hV,r0,s1,D,r1,h,h1,h2,hs⟩
theorem Hs.imp {P:Program} {f:Nat} {xs:List AV} {σ:St} {ι:Type} {V V':ι->Prop} {r:ι->AV} {s:ι->St} (h:Hs P f xs σ V r s) (hv: ∀i,V i->V' i):Hs P f xs σ V' r s:=
 ⟨h.1,λvs w g hr hi=>(h.2 vs w g hr hi).mono λe w' ⟨v,g',i,he,hV,oS⟩=>⟨v,g',i,he,hv i hV,oS⟩⟩
def AG (k:Nat) (q:Req):Bool:=if k<8 then decide (B7 k<=A0a k q/\A0a k q<=Cm k)else if k=8 then true else A4 q.b
def Rd (k:Nat) (q:Req):Bs:=if k<8 then Bp (A0a k q).toNat else if k=8 then DB q.oC else FU (EM q.b)
def Uc (k:Nat) (s:RS):RS:=if AG k s.q=true then⟨zF k s.q,s.b++Rd k s.q,none⟩else⟨s.q,s.b,some (ZT k,2)⟩
theorem A49 (k:Nat) (hk:k<=9) (s:RS) (he:s.err=none) (hb:s.b.length<=1000000) (hl:s.q.b.rZ.length<=1000000):A3z (Tv k) [.ref 1 0] (wS s) (.tuple []) (wS (Uc k s)):=by
 obtain⟨q,b,e⟩:=s;dsimp only at he hb hl;subst he;unfold Uc AG Rd;by_cases h8:k<8
 ·simp only[WU h8,Uj];split
  ·rename_i h;exact A4b k h8 q b hb h
  ·rename_i h;exact A4c k h8 q b h
 ·obtain rfl|rfl:k=8\/k=9:=Aa
  ·exact Aph q b hb
  ·cases h:A4 q.b with
   |true=>exact Afu q b hb h
   |false=>exact Afv q b h hl
theorem A4x {k:Nat} {q:Req} (h:AG k q=true):(Rd k q).length<=2000:=by
 unfold AG at h;unfold Rd;split
 ·rename_i h8;rw[WU h8]at h;have h1:=A5c h;have h2:=A20 k;have:=AL (n:=(A0a k q).toNat) Aa;omega
 ·rename_i h8;rw[Ug h8]at h;split
  ·simp[DB]
  ·rename_i h9;rw[Ug h9]at h;have h1:=GN h;have h2:=AL (n:=(EM q.b).length) Aa;simp only[Xp,FU];omega
theorem A5m {j k:Nat} (hj:j<=9) (hk:k<=9) (h:j≠k) (q:Req):AG j (zF k q)=AG j q:=by
 obtain rfl|rfl|rfl|rfl|rfl|rfl|rfl|rfl|rfl|rfl:k=0\/k=1\/k=2\/k=3\/k=4\/k=5\/k=6\/k=7\/k=8\/k=9:=Aa
 all_goals
  obtain rfl|rfl|rfl|rfl|rfl|rfl|rfl|rfl|rfl|rfl:j=0\/j=1\/j=2\/j=3\/j=4\/j=5\/j=6\/j=7\/j=8\/j=9:=Aa
  all_goals first
   |exact absurd Y h
   |rfl
theorem A55 (k:Nat) (q:Req) (h:q.b.rZ.length<=1000000):(zF k q).b.rZ.length<=1000000:=by
 unfold zF;split
 all_goals first
  |exact h
  |exact A5t _
def CJ (fs:List Nat) (q:Req) (i:Nat):RS:=(fs.take i).foldl (λs k=>Uc k s) ⟨q,[],none⟩
theorem A0b {fs:List Nat} {i k:Nat} (h:fs[i]?=some k) (q:Req):CJ fs q (i+1)=Uc k (CJ fs q i):=by
 unfold CJ;rw[AB h,A8z];rfl
theorem A2q (fs:List Nat) (q:Req) (hq:q.b.rZ.length<=1000000): ∀i,i<=fs.length->(CJ fs q i).b.length<=2000*i/\(CJ fs q i).q.b.rZ.length<=1000000
 |0,_=>⟨A5t _,hq⟩
 |i+1,hi=>by
  have ih:=A2q fs q hq i Aa;rw[A0b (Kv (show i<fs.length from Aa))];unfold Uc;split
  ·rename_i h;have:=A4x h;refine⟨?_,A55 _ _ ih.2⟩;simp only[Xp];omega
  ·exact⟨by dsimp only;omega,ih.2⟩
theorem A24 {fs:List Nat} (hn:fs.Nodup) {i k:Nat} (h:fs[i]?=some k):k∉fs.take i:=by
 obtain⟨aC,e⟩:=ZH.1 h;intro hx;obtain⟨j,hj,e2⟩:=A51.1 hx;exact A52.1 hn j i Aa aC Aa (e2.trans e.symm)
theorem A19 {fs:List Nat} (hn:fs.Nodup) (h9: ∀k∈fs,k<=9) (q:Req): ∀i,i<=fs.length->(∀k∈fs.take i,AG k q=true)->(CJ fs q i).err=none/\(CJ fs q i).q=(fs.take i).foldl (λq k=>zF k q) q/\ ∀k,k<=9->k∉fs.take i->AG k (CJ fs q i).q=AG k q
 |0,_,_=>⟨Y,Y,λ_ _ _=>rfl⟩
 |i+1,hi,ha=>by
  have hg:fs[i]?=some fs[i]:=Kv Aa;rw[AB hg]at ha⊢;obtain⟨e1,e2,e3⟩:=A19 hn h9 q i Aa (λk hk=>ha k (A25.2 (.inl hk)));have vO:=h9 fs[i] (Agz Aa);have bA:AG fs[i] (CJ fs q i).q=true:=by rw[e3 _ vO (A24 hn hg)];exact ha _ (A25.2 (.inr (A4h.2 Y)))
  rw[A0b hg];unfold Uc;rw[WU bA,A8z];refine⟨Y,by rw[<-e2];rfl,λk hk o8=>?_⟩;rw[A25,not_or]at o8;show AG k (zF fs[i] (CJ fs q i).q)=AG k q;rw[A5m hk vO (λe=>o8.2 (by simp[e])),e3 k hk o8.1]
theorem A2r {fs:List Nat} (hn:fs.Nodup) (h9: ∀k∈fs,k<=9) (q:Req): ∀i,i<=fs.length->(∀j,j<=i->(CJ fs q j).err=none)-> ∀k∈fs.take i,AG k q=true
 |0,_,_=>λk hk=>by simp at hk
 |i+1,hi,ha=>by
  have hg:fs[i]?=some fs[i]:=Kv Aa;have ih:=A2r hn h9 q i Aa (λj hj=>ha j Aa);have e3:=(A19 hn h9 q i Aa ih).2.2;have hl:=ha (i+1) (WW _);rw[A0b hg]at hl;unfold Uc at hl;split at hl
  ·rename_i bA;rw[e3 _ (h9 _ (Agz Aa)) (A24 hn hg)]at bA;rw[AB hg];intro k hk;rcases A25.1 hk with hk|hk
   ·exact ih k hk
   ·rw[A4h.1 hk];exact bA
  ·cases hl
def VS (n:Nat) (s:Nat->RS) (x:RS):Prop:= ∃i,i<=n/\x=s i/\(i=n\/(s i).err≠none)/\ ∀j,j<i->(s j).err=none
theorem Tr.perm {P:Program} {n:Nat} {env:A2} {σ σ':St} {code:Code} {K:Exit->A2->St->Prop} (hs: ∀b,Am.look σ' b=Am.look σ b) (h:Tr P n code env σ' K):Tr P n code env σ K:=by
 unfold Tr at h⊢;exact λF hF bP w g a hg=>h F hF bP w g a (hg.eqv (λ_=>rfl) hs)
theorem UF {A B:Blk} (b:Nat):Am.look [(1,A),(16,B)] b=Am.look [(16,B),(1,A)] b:=by
 simp only[Ap];by_cases h1:1=b
 ·subst h1;simp
 ·by_cases h2:16=b
  ·subst h2;simp
  ·simp[h1,h2]
theorem Yh (f:Nat->Option Nat) (j:Nat): ∀X:List AV,Gq f (X++List.replicate j .top)=Gq f X++List.replicate j .top
 |[]=>by
  show Gq f (List.replicate j .top)=List.replicate j .top
  induction j with
  |zero=>rfl
  |succ j ih=>rw[A7t];simp only[Gq,ih];rfl
 |x::X=>by
  show Dn f x::Gq f (X++List.replicate j .top)=Dn f x::(Gq f X++List.replicate j .top);rw[Yh f j X]
theorem Aq8 {α:Type} {l:List α} {i:Nat} {x:α} (h:l[i]?=some x) (r:List α):(l++r)[i]?=some x:=by
 obtain⟨aC,he⟩:=ZH.1 h;rw[Abh aC];exact h
theorem Sn {F:Nat->Option Nat} (h: ∀f,Dn F (L7 f)=L7 f) (j:Nat): ∀fs:List Nat,Gq F (fs.map L7++List.replicate j .top)=fs.map L7++List.replicate j .top
 |[]=>Yh F j []
 |f::r=>by
  show Dn F (L7 f)::Gq F (r.map L7++List.replicate j .top)=_;rw[h f,Sn h j r];rfl
theorem PD (k:Int) (fs:List Nat) (hk:(k=1/\fs=[162,163])\/(k=2/\fs=[164,165])\/(k=3/\fs=[166,167,171,164,169])\/(k=4/\fs=[166,167,168])\/(k=5/\fs=[164,169,170,168])\/(k=6/\fs=[171,164,169])\/(k=7/\fs=[171,164])\/(k=8/\fs=[164,169])) (s:Nat->RS) (hs: ∀i,i<fs.length->(∀j,j<=i->(s j).err=none)-> ∃f,fs[i]?=some f/\A3z f [.ref 1 0] (wS (s i)) (.tuple []) (wS (s (i+1)))):Hs Tryz.prog 73 [.ref 1 0,.t (.int .i8 k)] (wS (s 0)) (VS fs.length s) (λ_=>.tuple []) wS:=by
 have fP: ∀{j i f:Nat},fs[i]?=some f->(fs.map L7++List.replicate j AV.top)[0+i]?=some (L7 f):=λh=>by
  rw[Atj];exact Aq8 (by rw[A42,h];rfl) _
 have hL:fs.length<=5:=by rcases hk with⟨_,rfl⟩|⟨_,rfl⟩|⟨_,rfl⟩|⟨_,rfl⟩|⟨_,rfl⟩|⟨_,rfl⟩|⟨_,rfl⟩|⟨_,rfl⟩<;>decide
 rcases hk with⟨rfl,kG⟩|⟨rfl,kG⟩|⟨rfl,kG⟩|⟨rfl,kG⟩|⟨rfl,kG⟩|⟨rfl,kG⟩|⟨rfl,kG⟩|⟨rfl,kG⟩
 all_goals
  refine Dz Ai Tryz.func73 Y Y ?_
  repeat'(first|exact Au|refine yA ?_ ?_|refine⟨λh=>?_⟩|refine B9 (λ_ _ _ _=>?_)|refine AY (λ_ _ _ _ _=>?_)|refine B3 ?_|refine Dw Ad ?_|refine Du Ad ?_|refine Dv Ad Y ?_|refine BT [(1,1)] [(1,1),(60,16)] (Apv (s 0)) ?_|refine BT [(1,1)] [(1,1),(70,16)] (Apu (s 0)) ?_|refine JO Ai [(1,1)] [(1,1),(126,16)] Y Y Y Y Y (Apt (s 0)) Y (λ_ _=>rfl) (λ_ _=>rfl) (λ_ _=>rfl) (λj _=>?_)|refine BT [(1,1)] [(1,1),(84,16)] (Aps (s 0)) ?_|refine BT [(1,1)] [(1,1),(102,16)] (Apr (s 0)) ?_|refine JO Ai [(1,1)] [(1,1),(136,16)] Y Y Y Y Y (Apq (s 0)) Y (λ_ _=>rfl) (λ_ _=>rfl) (λ_ _=>rfl) (λj _=>?_)|refine BT [(1,1)] [(1,1),(112,16)] (App (s 0)) ?_|refine JO Ai [(1,1)] [(1,1),(150,16)] Y Y Y Y Y (Apo (s 0)) Y (λ_ _=>rfl) (λ_ _=>rfl) (λ_ _=>rfl) (λj _=>?_)|fail)
  first
   |refine Tr.perm (σ':=[(1,.cells (IG (s 0))),(16,.cells (fs.map L7++List.replicate j AV.top))]) (λb=>(UF b).trans (A5s (λs=>Am.look s b) (by subst kG;exact A5s (λl=>[(16,Blk.cells l),(1,Blk.cells (IG (s 0)))]) (Sn (λf=>rfl) j _).symm))) ?_
   |(obtain⟨j,hj0⟩: ∃j:Nat,j=0:=⟨0,Y⟩
     refine Tr.perm (σ':=[(1,.cells (IG (s 0))),(16,.cells (fs.map L7++List.replicate j AV.top))]) (λb=>(UF b).trans (A5s (λs=>Am.look s b) (by subst kG hj0;rfl))) ?_)
  refine AW (ι:=Nat) (λi=>i<=fs.length/\ ∀j,j<i->(s j).err=none) (λi=>[(0,.ref 1 0),(8,.row 16 1 0 fs.length),(9,.t (.int .i64 fs.length)),(10,.t (.int .i64 i))]) (λi=>[(1,.cells (IG (s i))),(16,.cells (fs.map L7++List.replicate j AV.top))]) (λi=>fs.length-i) 0 ⟨Aa,λj hj=>Aa⟩ ?_ ?_
  ·subst kG;exact Bb [] Aa6 Y
  clear kG;rintro i ⟨hi,bC⟩;by_cases aC:i<fs.length
  ·cases he:(s i).err with
   |none=>
    have hj: ∀j,j<i+1->(s j).err=none:=λj hj=>by
     by_cases e:j=i
     ·subst e;exact he
     ·exact bC j Aa
    obtain⟨f,hf,hc⟩:=hs i aC (λj sQ=>hj j Aa);have hg:=fP (j:=j) hf;generalize hx:s i=x at hc he;obtain⟨xq,xb,xe⟩:=x;dsimp only at he;subst he
    repeat'(first|exact Au|refine yA ?_ ?_|refine⟨λh=>?_⟩|refine B9 (λ_ _ _ _=>?_)|refine AY (λ_ _ _ _ _=>?_)|refine B3 ?_|refine Dw Ad ?_|refine Du Ad ?_|refine Dv Ad Y ?_|refine Cb Ai Y Y Y Y Y Y Y Y aC Y ?_|refine WG Ai Y Y Y Y Y hg Y Y ?_|refine BT [(1,1)] [(1,1)] hc ?_|fail)
    refine AM (i+1) ⟨Aa,hj⟩ Aa [] (Ag Y Y (Ag Y Y (Ag Y Y (Ag Y ?_ A8)))) ((A5s (λl=>[(1,Blk.cells (IG (s (i+1)))),(16,Blk.cells l)]) (Sn (F:=G3 [(1,1)] [(1,.cells (IG ⟨xq,xb,none⟩)),(16,.cells (fs.map L7++List.replicate j AV.top))]) (λf=>rfl) j fs)).trans Y);rw[A1 Aa Aa];rfl
   |some p=>
    have hV:VS fs.length s (s i):=⟨i,hi,Y,.inr (by rw[he];simp),bC⟩
    have hg:=fP (j:=j) (Kv aC);generalize fs[i]=f at hg;generalize hx:s i=x at hV he;obtain⟨xq,xb,xe⟩:=x;dsimp only at he;subst he
    repeat'(first|exact Au|refine yA ?_ ?_|refine⟨λh=>?_⟩|refine B9 (λ_ _ _ _=>?_)|refine AY (λ_ _ _ _ _=>?_)|refine B3 ?_|refine Dw Ad ?_|refine Du Ad ?_|refine Dv Ad Y ?_|refine Cb Ai Y Y Y Y Y Y Y Y aC Y ?_|refine WG Ai Y Y Y Y Y hg Y Y ?_|fail)
    exact Ir _ hV [8] Y Y Y (A3l _)
  ·have e:i=fs.length:=Aa;subst e
   have hV:VS fs.length s (s fs.length):=⟨fs.length,hi,Y,.inl Y,bC⟩
   repeat'(first|exact Au|refine yA ?_ ?_|refine⟨λh=>?_⟩|refine B9 (λ_ _ _ _=>?_)|refine AY (λ_ _ _ _ _=>?_)|refine B3 ?_|refine Dw Ad ?_|refine Du Ad ?_|refine Dv Ad Y ?_|fail)
   exact QB _ hV [8] Y Y Y (A3l _)
theorem A0q (k:Int) (fs:List Nat) (q:Req) (hq:q.b.rZ.length<=1000000) (hw: ∀s:Nat->RS,(∀i,i<(fs.map Tv).length->(∀j,j<=i->(s j).err=none)-> ∃f,(fs.map Tv)[i]?=some f/\A3z f [.ref 1 0] (wS (s i)) (.tuple []) (wS (s (i+1))))->Hs Tryz.prog 73 [.ref 1 0,.t (.int .i8 k)] (wS (s 0)) (VS (fs.map Tv).length s) (λ_=>.tuple []) wS) (vN:B8 q=fs.all (λk=>AG k q)) (oS:CY q=fs.foldl (λq k=>zF k q) q) (hn:fs.Nodup) (h9: ∀k∈fs,k<=9) (h5:fs.length<=5):Hs Tryz.prog 73 [.ref 1 0,.t (.int .i8 k)] (wS ⟨q,[],none⟩) (VR q) (λ_=>.tuple []) wS:=by
 have aQ:(fs.map Tv).length=fs.length:=Ts ..
 have hw:=hw (CJ fs q) (λi hi h=>by
  rw[aQ]at hi;have hg:fs[i]?=some fs[i]:=Kv hi;have hb:=A2q fs q hq i Aa;refine⟨Tv fs[i],by rw[A42,hg];rfl,?_⟩;rw[A0b hg]
  exact A49 _ (h9 _ (Agz hi)) _ (h i (WW _)) Aa hb.2)
 refine Hs.imp hw λx hx=>?_;obtain⟨i,hi,rfl,bL,bC⟩:=hx;rw[aQ]at hi bL;by_cases aI: ∀k∈fs,AG k q=true
 ·have hg: ∀j,j<=fs.length->_:=λj hj=>A19 hn h9 q j hj (λk hk=>aI k (A3c hk));have e:i=fs.length:=bL.elim id (λh=>absurd (hg i hi).1 h);subst e;have h1:=hg fs.length (WW _);have h2:=A2q fs q hq fs.length (WW _);rw[A5o]at h1;exact⟨⟨λ_=>by rw[vN,A21];exact aI,λ_=>h1.1⟩,λ_=>⟨h1.2.1.trans oS.symm,Aa⟩⟩
 ·have hr:B8 q=false:=by
   rw[vN]
   cases ha:fs.all (λk=>AG k q)with
   |false=>rfl
   |true=>exact absurd (A21.1 ha) aI
  have aE:(CJ fs q i).err≠none:=λe=>by
   refine aI ?_;have ei:i=fs.length:=bL.elim id (λh=>absurd e h);subst ei
   have:=A2r hn h9 q fs.length (WW _) (λj hj=>by
    by_cases ej:j=fs.length
    ·rw[ej];exact e
    ·exact bC j Aa)
   rw[A5o]at this;exact this
  exact⟨⟨λe=>absurd e aE,λe=>by rw[hr]at e;cases e⟩,λe=>absurd e aE⟩
theorem Aub (q:Req) (hk:q.kind=1) (hq:q.b.rZ.length<=1000000):Hs Tryz.prog 73 [.ref 1 0,.t (.int .i8 1)] (wS ⟨q,[],none⟩) (VR q) (λ_=>.tuple []) wS:=A0q 1 [0,1] q hq (PD _ _ (.inl ⟨Y,Y⟩)) (by simp[B8,hk,AG,A0a,B7,Cm,A60]) (by simp[CY,hk,zF]) Ae Ae Ae
theorem Aua (q:Req) (hk:q.kind=2) (hq:q.b.rZ.length<=1000000):Hs Tryz.prog 73 [.ref 1 0,.t (.int .i8 2)] (wS ⟨q,[],none⟩) (VR q) (λ_=>.tuple []) wS:=A0q 2 [4,9] q hq (PD _ _ (.inr (.inl ⟨Y,Y⟩))) (by simp[B8,hk,AG,A0a,B7,Cm,A60]) (by simp[CY,hk,zF]) Ae Ae Ae
theorem At9 (q:Req) (hk:q.kind=3) (hq:q.b.rZ.length<=1000000):Hs Tryz.prog 73 [.ref 1 0,.t (.int .i8 3)] (wS ⟨q,[],none⟩) (VR q) (λ_=>.tuple []) wS:=A0q 3 [2,3,5,4,6] q hq (PD _ _ (.inr (.inr (.inl ⟨Y,Y⟩)))) (by simp[B8,hk,AG,A0a,B7,Cm,A60]) (by simp[CY,hk,zF]) Ae Ae Ae
theorem At8 (q:Req) (hk:q.kind=4) (hq:q.b.rZ.length<=1000000):Hs Tryz.prog 73 [.ref 1 0,.t (.int .i8 4)] (wS ⟨q,[],none⟩) (VR q) (λ_=>.tuple []) wS:=A0q 4 [2,3,8] q hq (PD _ _ (.inr (.inr (.inr (.inl ⟨Y,Y⟩))))) (by simp[B8,hk,AG,A0a,B7,Cm,A60]) (by simp[CY,hk,zF]) Ae Ae Ae
theorem At7 (q:Req) (hk:q.kind=5) (hq:q.b.rZ.length<=1000000):Hs Tryz.prog 73 [.ref 1 0,.t (.int .i8 5)] (wS ⟨q,[],none⟩) (VR q) (λ_=>.tuple []) wS:=A0q 5 [4,6,7,8] q hq (PD _ _ (.inr (.inr (.inr (.inr (.inl ⟨Y,Y⟩)))))) (by simp[B8,hk,AG,A0a,B7,Cm,A60]) (by simp[CY,hk,zF]) Ae Ae Ae
theorem At6 (q:Req) (hk:q.kind=6) (hq:q.b.rZ.length<=1000000):Hs Tryz.prog 73 [.ref 1 0,.t (.int .i8 6)] (wS ⟨q,[],none⟩) (VR q) (λ_=>.tuple []) wS:=A0q 6 [5,4,6] q hq (PD _ _ (.inr (.inr (.inr (.inr (.inr (.inl ⟨Y,Y⟩))))))) (by simp[B8,hk,AG,A0a,B7,Cm,A60]) (by simp[CY,hk,zF]) Ae Ae Ae
theorem At5 (q:Req) (hk:q.kind=7) (hq:q.b.rZ.length<=1000000):Hs Tryz.prog 73 [.ref 1 0,.t (.int .i8 7)] (wS ⟨q,[],none⟩) (VR q) (λ_=>.tuple []) wS:=A0q 7 [5,4] q hq (PD _ _ (.inr (.inr (.inr (.inr (.inr (.inr (.inl ⟨Y,Y⟩)))))))) (by simp[B8,hk,AG,A0a,B7,Cm,A60]) (by simp[CY,hk,zF]) Ae Ae Ae
theorem At4 (q:Req) (hk:q.kind=8) (hq:q.b.rZ.length<=1000000):Hs Tryz.prog 73 [.ref 1 0,.t (.int .i8 8)] (wS ⟨q,[],none⟩) (VR q) (λ_=>.tuple []) wS:=A0q 8 [4,6] q hq (PD _ _ (.inr (.inr (.inr (.inr (.inr (.inr (.inr (⟨Y,Y⟩))))))))) (by simp[B8,hk,AG,A0a,B7,Cm,A60]) (by simp[CY,hk,zF]) Ae Ae Ae
theorem Auc (q:Req) (hk:q.kind=0):Hs Tryz.prog 73 [.ref 1 0,.t (.int .i8 0)] (wS ⟨q,[],none⟩) (VR q) (λ_=>.tuple []) wS:=by
 refine Dz Ai Tryz.func73 Y Y ?_
 repeat'(first|exact Au|refine yA ?_ ?_|refine⟨λh=>?_⟩|refine B9 (λ_ _ _ _=>?_)|refine AY (λ_ _ _ _ _=>?_)|refine B3 ?_|refine Dw Ad ?_|refine Du Ad ?_|refine Dv Ad Y ?_|refine Ew Ai [(1,1)] [(1,1)] Y Y Y Y Y (Apw ⟨q,[],none⟩) Y Y Y Y Y ?_|refine B6 1 ?_|refine BH ?_|fail)
 all_goals first|(exfalso;simp at h;done)|exact QB ⟨q,[],none⟩ ⟨⟨λ_=>by simp[B8,hk],λ_=>rfl⟩,λ_=>⟨by simp[CY,hk],A5t _⟩⟩ [] Y Y Y (A3l _)|exact Ir ⟨q,[],none⟩ ⟨⟨λ_=>by simp[B8,hk],λ_=>rfl⟩,λ_=>⟨by simp[CY,hk],A5t _⟩⟩ [] Y Y Y (A3l _)
theorem At3 (q:Req) (hk:q.kind=9):Hs Tryz.prog 73 [.ref 1 0,.t (.int .i8 9)] (wS ⟨q,[],none⟩) (VR q) (λ_=>.tuple []) wS:=by
 refine Dz Ai Tryz.func73 Y Y ?_
 repeat'(first|exact Au|refine yA ?_ ?_|refine⟨λh=>?_⟩|refine B9 (λ_ _ _ _=>?_)|refine AY (λ_ _ _ _ _=>?_)|refine B3 ?_|refine Dw Ad ?_|refine Du Ad ?_|refine Dv Ad Y ?_|refine Ew Ai [(1,1)] [(1,1)] Y Y Y Y Y (Apn ⟨q,[],none⟩) Y Y Y Y Y ?_|refine B6 1 ?_|refine BH ?_|fail)
 all_goals first|(exfalso;simp at h;done)|exact QB ⟨q,[],none⟩ ⟨⟨λ_=>by simp[B8,hk],λ_=>rfl⟩,λ_=>⟨by simp[CY,hk],A5t _⟩⟩ [] Y Y Y (A3l _)|exact Ir ⟨q,[],none⟩ ⟨⟨λ_=>by simp[B8,hk],λ_=>rfl⟩,λ_=>⟨by simp[CY,hk],A5t _⟩⟩ [] Y Y Y (A3l _)
theorem Ap5 (q:Req) (hk: ¬(0<=q.kind/\q.kind<=9)):Hs Tryz.prog 73 [.ref 1 0,.t (.int .i8 q.kind)] (wS ⟨q,[],none⟩) (VR q) (λ_=>.tuple []) wS:=by
 have hr:B8 q=false:=by
  unfold B8
  repeat (rw[Ug Aa])
 refine Dz Ai Tryz.func73 Y Y ?_
 repeat'(first|exact Au|refine yA ?_ ?_|refine⟨λh=>?_⟩|refine B9 (λ_ _ _ _=>?_)|refine AY (λ_ _ _ _ _=>?_)|refine B3 ?_|refine Dw Ad ?_|refine Du Ad ?_|refine Dv Ad Y ?_|refine BT [(1,1)] [(1,1)] (Aj4 q [] hk) ?_|refine B6 1 ?_|refine BH ?_|fail)
 all_goals first|(exfalso;simp at h;done)|exact QB ⟨q,[],some ([75,105,110,100],2)⟩ ⟨⟨λh=>(by cases h),λh'=>(by rw[hr]at h';cases h')⟩,λh=>(by cases h)⟩ [] rfl rfl rfl (A3l _)
theorem Ap4 (q:Req) (hq:q.b.rZ.length<=1000000):Hs Tryz.prog 73 [.ref 1 0,.t (.int .i8 q.kind)] (wS ⟨q,[],none⟩) (VR q) (λ_=>.tuple []) wS:=by
 by_cases h:0<=q.kind/\q.kind<=9
 ·have hc:q.kind=0\/q.kind=1\/q.kind=2\/q.kind=3\/q.kind=4\/q.kind=5\/q.kind=6\/q.kind=7\/q.kind=8\/q.kind=9:=Aa;rcases hc with hk|hk|hk|hk|hk|hk|hk|hk|hk|hk
  ·have:=Auc q hk;rw[<-hk]at this;exact this
  ·have:=Aub q hk hq;rw[<-hk]at this;exact this
  ·have:=Aua q hk hq;rw[<-hk]at this;exact this
  ·have:=At9 q hk hq;rw[<-hk]at this;exact this
  ·have:=At8 q hk hq;rw[<-hk]at this;exact this
  ·have:=At7 q hk hq;rw[<-hk]at this;exact this
  ·have:=At6 q hk hq;rw[<-hk]at this;exact this
  ·have:=At5 q hk hq;rw[<-hk]at this;exact this
  ·have:=At4 q hk hq;rw[<-hk]at this;exact this
  ·have:=At3 q hk;rw[<-hk]at this;exact this
 ·exact Ap5 q h
