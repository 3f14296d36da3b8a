/- Contracts and laws, joined: Wb, Wbb, Wc, Wbt, Wd, Wi. No condition beside those that each theorem names. -/
import Derived.Test.YtmohpcgmdheafaaGreatDoorZW1
set_option linter.unusedVariables false
set_option linter.unusedSimpArgs false
set_option maxRecDepth 100000
set_option maxHeartbeats 8000000
namespace Go.Proofs.YtmohpcgmdheafaaGreatDoor
open Go.Am
attribute [local irreducible] Decidable.decide Tr A2 hSK hSW
structure RS where
 q:Req
 b:Bs
 err:Option (Bs×Int)
def A0y:Option (Bs×Int)->T
 |none=>.nilIface
 |some p=>.iface 204 (.ptr [.str p.1,.int .i64 p.2])
def RZ (s:RS):List AV:=.t .nilPtr::(Ah (BL s.q)++[.t (.slice .any 1 (s.b.map A7)),.t (A0y s.err)])
def wS (s:RS):St:=[(1,.cells (RZ s))]
theorem KN (q:Req) (b f:Bs) (n:Int):A17 249 [.ref 1 0,.t (.str f),.t (.int .i64 n)] (wS ⟨q,b,none⟩) (.tuple []) (wS ⟨q,b,some (f,n)⟩):=by
 refine ct1 Ag Tryz.func249 Y Y ?_
 repeat'(first|exact prB|refine stC ?_|refine stU (fun h=>?_) fun h=>?_|refine stN (fun b hb=>?_)|fail)
 all_goals exact AZ [] Y Y Y (A1x _)
theorem Agy (q:Req) (b f:Bs) (lo hi:Int) (h0:0<=lo) (h1:hi<=1099511627776) (hb:b.length<=1000000) (h:lo<=q.tid/\q.tid<=hi):A17 297 [.ref 1 0,.t (.str f),.ref 1 2,.t (.int .i64 lo),.t (.int .i64 hi)] (wS ⟨q,b,none⟩) (.tuple []) (wS ⟨{q with tid:=0},b++AY q.tid.toNat,none⟩):=by
 refine ct1 Ag Tryz.func297 Y Y ?_
 repeat'(first|exact prB|refine stC ?_|refine stU (fun h=>?_) fun h=>?_|refine stN (fun b hb=>?_)|refine stD 4 12 ?_|refine stM ?_ (c:=DG b q.tid Aa Aa Aa)|fail)
 all_goals first|exact AZ [] Y Y Y (A1x _)|exact Ba [] Y Y Y (A1x _)|(exfalso;dsimp only at*;omega)
theorem Acz (q:Req) (b f:Bs) (lo hi:Int) (h: ¬(lo<=q.tid/\q.tid<=hi)):A17 297 [.ref 1 0,.t (.str f),.ref 1 2,.t (.int .i64 lo),.t (.int .i64 hi)] (wS ⟨q,b,none⟩) (.tuple []) (wS ⟨q,b,some (f,2)⟩):=by
 refine ct1 Ag Tryz.func297 Y Y ?_
 repeat'(first|exact prB|refine stC ?_|refine stU (fun h=>?_) fun h=>?_|refine stN (fun b hb=>?_)|refine stD 4 12 ?_|refine A0 Ag [(1,1)] [(1,1)] Y Y Y Y Y (KN q b f 2) Y Y Y Y Y ?_|fail)
 all_goals first|exact AZ [] Y Y Y (A1x _)|exact Ba [] Y Y Y (A1x _)|(exfalso;dsimp only at*;omega)
theorem Ale (q:Req) (b:Bs) (hb:b.length<=1000000) (h:0<=q.tid/\q.tid<=2):A17 239 [.ref 1 0] (wS ⟨q,b,none⟩) (.tuple []) (wS ⟨{q with tid:=0},b++AY q.tid.toNat,none⟩):=by
 refine ct1 Ag Tryz.func239 Y Y ?_
 repeat'(first|exact prB|refine stC ?_|refine stU (fun h=>?_) fun h=>?_|refine stN (fun b hb=>?_)|refine A0 Ag [(1,1)] [(1,1)] Y Y Y Y Y (Agy q b _ _ _ Aa Aa hb h) Y Y Y Y Y ?_|fail)
 exact AZ [] Y Y Y (A1x _)
theorem Alf (q:Req) (b:Bs) (h: ¬(0<=q.tid/\q.tid<=2)):A17 239 [.ref 1 0] (wS ⟨q,b,none⟩) (.tuple []) (wS ⟨q,b,some ([84,105,100],2)⟩):=by
 refine ct1 Ag Tryz.func239 Y Y ?_
 repeat'(first|exact prB|refine stC ?_|refine stU (fun h=>?_) fun h=>?_|refine stN (fun b hb=>?_)|refine A0 Ag [(1,1)] [(1,1)] Y Y Y Y Y (Acz q b _ _ _ h) Y Y Y Y Y ?_|fail)
 exact AZ [] Y Y Y (A1x _)
theorem UJ (q:Req) (b f:Bs) (lo hi:Int) (h0:0<=lo) (h1:hi<=1099511627776) (hb:b.length<=1000000) (h:lo<=q.timeout/\q.timeout<=hi):A17 297 [.ref 1 0,.t (.str f),.ref 1 3,.t (.int .i64 lo),.t (.int .i64 hi)] (wS ⟨q,b,none⟩) (.tuple []) (wS ⟨{q with timeout:=0},b++AY q.timeout.toNat,none⟩):=by
 refine ct1 Ag Tryz.func297 Y Y ?_
 repeat'(first|exact prB|refine stC ?_|refine stU (fun h=>?_) fun h=>?_|refine stN (fun b hb=>?_)|refine stD 4 12 ?_|refine stM ?_ (c:=DG b q.timeout Aa Aa Aa)|fail)
 all_goals first|exact AZ [] Y Y Y (A1x _)|exact Ba [] Y Y Y (A1x _)|(exfalso;dsimp only at*;omega)
theorem S0 (q:Req) (b f:Bs) (lo hi:Int) (h: ¬(lo<=q.timeout/\q.timeout<=hi)):A17 297 [.ref 1 0,.t (.str f),.ref 1 3,.t (.int .i64 lo),.t (.int .i64 hi)] (wS ⟨q,b,none⟩) (.tuple []) (wS ⟨q,b,some (f,2)⟩):=by
 refine ct1 Ag Tryz.func297 Y Y ?_
 repeat'(first|exact prB|refine stC ?_|refine stU (fun h=>?_) fun h=>?_|refine stN (fun b hb=>?_)|refine stD 4 12 ?_|refine A0 Ag [(1,1)] [(1,1)] Y Y Y Y Y (KN q b f 2) Y Y Y Y Y ?_|fail)
 all_goals first|exact AZ [] Y Y Y (A1x _)|exact Ba [] Y Y Y (A1x _)|(exfalso;dsimp only at*;omega)
theorem Wg (q:Req) (b:Bs) (hb:b.length<=1000000) (h:1<=q.timeout/\q.timeout<=20):A17 240 [.ref 1 0] (wS ⟨q,b,none⟩) (.tuple []) (wS ⟨{q with timeout:=0},b++AY q.timeout.toNat,none⟩):=by
 refine ct1 Ag Tryz.func240 Y Y ?_
 repeat'(first|exact prB|refine stC ?_|refine stU (fun h=>?_) fun h=>?_|refine stN (fun b hb=>?_)|refine A0 Ag [(1,1)] [(1,1)] Y Y Y Y Y (UJ q b _ _ _ Aa Aa hb h) Y Y Y Y Y ?_|fail)
 exact AZ [] Y Y Y (A1x _)
theorem Wj (q:Req) (b:Bs) (h: ¬(1<=q.timeout/\q.timeout<=20)):A17 240 [.ref 1 0] (wS ⟨q,b,none⟩) (.tuple []) (wS ⟨q,b,some ([84,105,109,101,111,117,116],2)⟩):=by
 refine ct1 Ag Tryz.func240 Y Y ?_
 repeat'(first|exact prB|refine stC ?_|refine stU (fun h=>?_) fun h=>?_|refine stN (fun b hb=>?_)|refine A0 Ag [(1,1)] [(1,1)] Y Y Y Y Y (S0 q b _ _ _ h) Y Y Y Y Y ?_|fail)
 exact AZ [] Y Y Y (A1x _)
theorem Acy (q:Req) (b f:Bs) (lo hi:Int) (h0:0<=lo) (h1:hi<=1099511627776) (hb:b.length<=1000000) (h:lo<=q.part/\q.part<=hi):A17 297 [.ref 1 0,.t (.str f),.ref 1 6,.t (.int .i64 lo),.t (.int .i64 hi)] (wS ⟨q,b,none⟩) (.tuple []) (wS ⟨{q with part:=0},b++AY q.part.toNat,none⟩):=by
 refine ct1 Ag Tryz.func297 Y Y ?_
 repeat'(first|exact prB|refine stC ?_|refine stU (fun h=>?_) fun h=>?_|refine stN (fun b hb=>?_)|refine stD 4 12 ?_|refine stM ?_ (c:=DG b q.part Aa Aa Aa)|fail)
 all_goals first|exact AZ [] Y Y Y (A1x _)|exact Ba [] Y Y Y (A1x _)|(exfalso;dsimp only at*;omega)
theorem YA (q:Req) (b f:Bs) (lo hi:Int) (h: ¬(lo<=q.part/\q.part<=hi)):A17 297 [.ref 1 0,.t (.str f),.ref 1 6,.t (.int .i64 lo),.t (.int .i64 hi)] (wS ⟨q,b,none⟩) (.tuple []) (wS ⟨q,b,some (f,2)⟩):=by
 refine ct1 Ag Tryz.func297 Y Y ?_
 repeat'(first|exact prB|refine stC ?_|refine stU (fun h=>?_) fun h=>?_|refine stN (fun b hb=>?_)|refine stD 4 12 ?_|refine A0 Ag [(1,1)] [(1,1)] Y Y Y Y Y (KN q b f 2) Y Y Y Y Y ?_|fail)
 all_goals first|exact AZ [] Y Y Y (A1x _)|exact Ba [] Y Y Y (A1x _)|(exfalso;dsimp only at*;omega)
theorem Agu (q:Req) (b:Bs) (hb:b.length<=1000000) (h:0<=q.part/\q.part<=2):A17 241 [.ref 1 0] (wS ⟨q,b,none⟩) (.tuple []) (wS ⟨{q with part:=0},b++AY q.part.toNat,none⟩):=by
 refine ct1 Ag Tryz.func241 Y Y ?_
 repeat'(first|exact prB|refine stC ?_|refine stU (fun h=>?_) fun h=>?_|refine stN (fun b hb=>?_)|refine A0 Ag [(1,1)] [(1,1)] Y Y Y Y Y (Acy q b _ _ _ Aa Aa hb h) Y Y Y Y Y ?_|fail)
 exact AZ [] Y Y Y (A1x _)
theorem Agv (q:Req) (b:Bs) (h: ¬(0<=q.part/\q.part<=2)):A17 241 [.ref 1 0] (wS ⟨q,b,none⟩) (.tuple []) (wS ⟨q,b,some ([80,97,114,116],2)⟩):=by
 refine ct1 Ag Tryz.func241 Y Y ?_
 repeat'(first|exact prB|refine stC ?_|refine stU (fun h=>?_) fun h=>?_|refine stN (fun b hb=>?_)|refine A0 Ag [(1,1)] [(1,1)] Y Y Y Y Y (YA q b _ _ _ h) Y Y Y Y Y ?_|fail)
 exact AZ [] Y Y Y (A1x _)
def clR (f:Nat):AV:=.func (.func f) [.ref 1 0] []
theorem Ali (s:RS):A17 178 [.ref 1 0,.t (.int .i8 1)] (wS s) (.row 60 1 0 2) [(60,.cells [clR 239,clR 240]),(1,.cells (RZ s))]:=by
 refine ct1 Ag Tryz.func178 Y Y ?_
 repeat'(first|exact prB|refine stA ?_|refine Cj (fun _ _ _ _=>?_)|refine stU (fun h=>?_) fun h=>?_|refine Bu (fun _ _ _ _ _=>?_)|refine Ca ?_|refine Ff Ad ?_|refine Fd Ad ?_|refine Fe Ad Y ?_|refine stN (fun b hb=>?_)|refine NL Ag Y Y Y Y Y Y ?_|fail)
 exact Ba [] Y Y Y (A1x _)
theorem Alh (s:RS):A17 178 [.ref 1 0,.t (.int .i8 2)] (wS s) (.row 70 1 0 2) [(70,.cells [clR 241,clR 242]),(1,.cells (RZ s))]:=by
 refine ct1 Ag Tryz.func178 Y Y ?_
 repeat'(first|exact prB|refine stA ?_|refine Cj (fun _ _ _ _=>?_)|refine stU (fun h=>?_) fun h=>?_|refine Bu (fun _ _ _ _ _=>?_)|refine Ca ?_|refine Ff Ad ?_|refine Fd Ad ?_|refine Fe Ad Y ?_|refine stN (fun b hb=>?_)|refine NL Ag Y Y Y Y Y Y ?_|fail)
 exact Ba [] Y Y Y (A1x _)
theorem Ct.weakP {P:Program} {f:Nat} {xs:List AV} {σ σ1 σ2:St} {r:AV} (h:Ct P f xs σ r σ1) (hσ:SP σ1 σ2):Ct P f xs σ r σ2:=
 ⟨h.1,fun vs w g hr hi=>(h.2 vs w g hr hi).mono fun e w' ⟨v,g',he,hx,hv,hi'⟩=>⟨v,g',he,hx,hv,hσ.inv hi'⟩⟩
theorem XT:Yk 440 1:=Ae3 Aj1
theorem Ac3 (s:Bs) (n:Int):A17 339 [.t (CE 440 s n)] [] (.t (.int .i64 n)) []:=by
 refine ct0 Ag Tryz.func339 Y false Y Y ?_
 repeat'(first|exact prB|refine stA ?_|refine Cj (fun _ _ _ _=>?_)|refine stU (fun h=>?_) fun h=>?_|refine Bu (fun _ _ _ _ _=>?_)|refine Ca ?_|refine Ff Ad ?_|refine Fd Ad ?_|refine Fe Ad Y ?_|refine A0 Ag [(6,1)] [(1,6)] Y Y Y Y Y (Uq XT [.str s,.int .i64 n] n 0 Y) Y Y Y Y Y ?_|fail)
 all_goals exact Ai Y (A1y Y)
theorem Ab7 (b:Batch) (hb:A9 b=false) (hl:b.recs.length<=1000000):A17 338 [.agg (Ah (Au b))] [] (.tuple [.t (.slice .nil 0 []),.t (CE 440 [97,32,98,97,116,99,104] 2)]) []:=by
 have cm:A17 182 [.agg (Ah (Au b))] [] (.t (.bool false)) []:=hb▸Fl b Aa
 refine ct0 Ag Tryz.func338 Y false Y Y ?_
 repeat'(first|exact prB|refine stA ?_|refine Cj (fun _ _ _ _=>?_)|refine stU (fun h=>?_) fun h=>?_|refine Bu (fun _ _ _ _ _=>?_)|refine Ca ?_|refine Ff Ad ?_|refine Fd Ad ?_|refine Fe Ad Y ?_|refine stD 19 5 ?_|refine stL ?_ (c:=cm)|fail)
 exact Ai Y (A1y Y)
theorem YM (b:Batch) (hb:A9 b=false) (hl:b.recs.length<=1000000):A17 300 [.agg (Ah (Au b))] [] (.tuple [.t (.str []),.t (.int .i64 2)]) []:=by
 refine ct0 Ag Tryz.func300 Y false Y Y ?_
 repeat'(first|exact prB|refine stA ?_|refine Cj (fun _ _ _ _=>?_)|refine stU (fun h=>?_) fun h=>?_|refine Bu (fun _ _ _ _ _=>?_)|refine Ca ?_|refine Ff Ad ?_|refine Fd Ad ?_|refine Fe Ad Y ?_|refine stL ?_ (c:=Ab7 b hb hl)|refine stL ?_ (c:=Ac3 _ _)|fail)
 exact Ai Y (A1y Y)
def wSn (q:Req) (b:Bs):St:=[(1,.cells [AV.t T.nilPtr,AV.t (T.int .i8 q.kind),AV.t (T.int .i64 q.tid),AV.t (T.int .i64 q.timeout),AV.t (T.int .i64 q.pid),AV.t (T.int .i64 q.epoch),AV.t (T.int .i64 q.part),AV.t (T.int .i64 q.group),AV.t (T.int .i64 q.offset),AV.t (T.int .i64 q.most),AV.t (T.bool q.yes),AV.t (T.int .i64 0),AV.t (T.int .i64 0),AV.t (T.int .i64 0),AV.t (T.bool false),AV.t (T.slice .nil 0 []),AV.t (T.slice .any 1 (b.map A7)),AV.t T.nilIface])]
theorem Akz (q:Req) (b:Bs):SP (wSn q b) (wS ⟨{q with b:=Mp},b,none⟩):=
 ⟨⟨Y,show DU _ _ from⟨A1x _,A1x _,A1x _,A1x _,A1x _,A1x _,A1x _,A1x _,A1x _,A1x _,A1x _,A1x _,A1x _,A1x _,A1x _,Ak,A1x _,A1x _,trivial⟩⟩,trivial⟩
theorem Ac4 (q:Req) (b:Bs) (hb:b.length<=1000000) (hm:A9 q.b=true):A17 242 [.ref 1 0] (wS ⟨q,b,none⟩) (.tuple []) (wS ⟨{q with b:=Mp},b++DT (CG q.b),none⟩):=by
 have hl:=En hm
 refine Ct.weakP ?_ (Akz q (b++DT (CG q.b)))
 refine ct1 Ag Tryz.func242 Y Y ?_
 repeat'(first|exact prB|refine stA ?_|refine Cj (fun _ _ _ _=>?_)|refine stU (fun h=>?_) fun h=>?_|refine Bu (fun _ _ _ _ _=>?_)|refine Ca ?_|refine Ff Ad ?_|refine Fd Ad ?_|refine Fe Ad Y ?_|refine stL ?_ (c:=Tq q.b hm)|refine stL ?_ (c:=RN b (CG q.b) Aa Aa)|fail)
 all_goals first|exact AZ [] Y Y Y (A1x _)|exact Ba [] Y Y Y (A1x _)
theorem Ac5 (q:Req) (b:Bs) (hm:A9 q.b=false) (hl:q.b.recs.length<=1000000):A17 242 [.ref 1 0] (wS ⟨q,b,none⟩) (.tuple []) (wS ⟨q,b,some ([66],2)⟩):=by
 refine ct1 Ag Tryz.func242 Y Y ?_
 repeat'(first|exact prB|refine stA ?_|refine Cj (fun _ _ _ _=>?_)|refine stU (fun h=>?_) fun h=>?_|refine Bu (fun _ _ _ _ _=>?_)|refine Ca ?_|refine Ff Ad ?_|refine Fd Ad ?_|refine Fe Ad Y ?_|refine stL ?_ (c:=YM q.b hm hl)|refine A0 Ag [(1,1)] [(1,1)] Y Y Y Y Y (KN q b _ 2) Y Y Y Y Y ?_|fail)
 all_goals first|exact AZ [] Y Y Y (A1x _)|exact Ba [] Y Y Y (A1x _)
def FN (q:Req):Req:=
 if q.kind=1 then{q with tid:=0,timeout:=0}
 else if q.kind=2 then{q with part:=0,b:=Mp}
 else if q.kind=3 then{q with pid:=0,epoch:=0,group:=0,part:=0,offset:=0}
 else if q.kind=4 then{q with pid:=0,epoch:=0,yes:=false}
 else if q.kind=5 then{q with part:=0,offset:=0,most:=0,yes:=false}
 else if q.kind=6 then{q with group:=0,part:=0,offset:=0}
 else if q.kind=7 then{q with group:=0,part:=0}
 else if q.kind=8 then{q with part:=0,offset:=0}
 else q
def VR (q:Req) (s:RS):Prop:=(s.err=none↔HI q=true)/\(s.err=none->s.q=FN q/\s.b.length<=10000)
theorem Aaf {ι:Type} {te:TE} {rs:List ResultVar} {V:ι->Prop} {r:ι->AV} {s:ι->St} {e:Env} {st s1:St} {r0 r1:AV} (i:ι) (hV:V i) (D:List Nat) (h:JY te true rs e st=some (r0,s1)) (h1:K6 D [(0,r0)]=[(0,r1)]) (h2:EY D s1=s i) (hs:Sub r1 (r i)):Atp te rs V r s .normal e st:=
 ⟨.inl Y,i,hV,r0,s1,D,r1,h,h1,h2,hs⟩
theorem CtF.imp {P:Program} {f:Nat} {xs:List AV} {σ:St} {ι:Type} {V V':ι->Prop} {r:ι->AV} {s:ι->St} (h:CtF P f xs σ V r s) (hv: ∀i,V i->V' i):CtF P f xs σ V' r s:=
 ⟨h.1,fun vs w g hr hi=>(h.2 vs w g hr hi).mono fun e w' ⟨v,g',i,he,hV,hrest⟩=>⟨v,g',i,he,hv i hV,hrest⟩⟩
def Fi (s:RS):RS:=if 0<=s.q.tid/\s.q.tid<=2 then⟨{s.q with tid:=0},s.b++AY s.q.tid.toNat,none⟩else⟨s.q,s.b,some ([84,105,100],2)⟩
theorem Acg (s:RS) (he:s.err=none) (hb:s.b.length<=1000000):A17 239 [.ref 1 0] (wS s) (.tuple []) (wS (Fi s)):=by
 obtain⟨q,b,e⟩:=s
 dsimp only at he hb
 subst he
 by_cases h:0<=q.tid/\q.tid<=2
 ·rw[show Fi ⟨q,b,none⟩=⟨{q with tid:=0},b++AY q.tid.toNat,none⟩from if_pos h];exact Ale q b hb h
 ·rw[show Fi ⟨q,b,none⟩=⟨q,b,some ([84,105,100],2)⟩from if_neg h];exact Alf q b h
theorem Q6 (s:RS) (n:Nat) (h:(Fi s).err=none) (hb:s.b.length<=n):(Fi s).b.length<=n+6:=by
 unfold Fi at h⊢
 split
 ·rename_i hc
  have:=AC (n:=(s.q.tid.toNat)) Aa
  simp only[List.length_append];omega
 ·dsimp only;omega
def Cz (s:RS):RS:=if 1<=s.q.timeout/\s.q.timeout<=20 then⟨{s.q with timeout:=0},s.b++AY s.q.timeout.toNat,none⟩else⟨s.q,s.b,some ([84,105,109,101,111,117,116],2)⟩
theorem Sx (s:RS) (he:s.err=none) (hb:s.b.length<=1000000):A17 240 [.ref 1 0] (wS s) (.tuple []) (wS (Cz s)):=by
 obtain⟨q,b,e⟩:=s
 dsimp only at he hb
 subst he
 by_cases h:1<=q.timeout/\q.timeout<=20
 ·rw[show Cz ⟨q,b,none⟩=⟨{q with timeout:=0},b++AY q.timeout.toNat,none⟩from if_pos h];exact Wg q b hb h
 ·rw[show Cz ⟨q,b,none⟩=⟨q,b,some ([84,105,109,101,111,117,116],2)⟩from if_neg h];exact Wj q b h
theorem Q5 (s:RS) (n:Nat) (h:(Cz s).err=none) (hb:s.b.length<=n):(Cz s).b.length<=n+6:=by
 unfold Cz at h⊢
 split
 ·rename_i hc
  have:=AC (n:=(s.q.timeout.toNat)) Aa
  simp only[List.length_append];omega
 ·dsimp only;omega
def Dd (s:RS):RS:=if 0<=s.q.part/\s.q.part<=2 then⟨{s.q with part:=0},s.b++AY s.q.part.toNat,none⟩else⟨s.q,s.b,some ([80,97,114,116],2)⟩
theorem Yz (s:RS) (he:s.err=none) (hb:s.b.length<=1000000):A17 241 [.ref 1 0] (wS s) (.tuple []) (wS (Dd s)):=by
 obtain⟨q,b,e⟩:=s
 dsimp only at he hb
 subst he
 by_cases h:0<=q.part/\q.part<=2
 ·rw[show Dd ⟨q,b,none⟩=⟨{q with part:=0},b++AY q.part.toNat,none⟩from if_pos h];exact Agu q b hb h
 ·rw[show Dd ⟨q,b,none⟩=⟨q,b,some ([80,97,114,116],2)⟩from if_neg h];exact Agv q b h
theorem OK (s:RS) (n:Nat) (h:(Dd s).err=none) (hb:s.b.length<=n):(Dd s).b.length<=n+6:=by
 unfold Dd at h⊢
 split
 ·rename_i hc
  have:=AC (n:=(s.q.part.toNat)) Aa
  simp only[List.length_append];omega
 ·dsimp only;omega
def Dz (s:RS):RS:=if A9 s.q.b=true then⟨{s.q with b:=Mp},s.b++DT (CG s.q.b),none⟩else⟨s.q,s.b,some ([66],2)⟩
theorem VU (s:RS) (he:s.err=none) (hb:s.b.length<=1000000) (hl:s.q.b.recs.length<=1000000):A17 242 [.ref 1 0] (wS s) (.tuple []) (wS (Dz s)):=by
 obtain⟨q,b,e⟩:=s
 dsimp only at he hb hl
 subst he
 cases h:A9 q.b with
 |true=>rw[show Dz ⟨q,b,none⟩=⟨{q with b:=Mp},b++DT (CG q.b),none⟩from if_pos h];exact Ac4 q b hb h
 |false=>rw[show Dz ⟨q,b,none⟩=⟨q,b,some ([66],2)⟩from if_neg (by rw[h];decide)];exact Ac5 q b h hl
theorem U6 (s:RS) (n:Nat) (h:(Dz s).err=none) (hb:s.b.length<=n):(Dz s).b.length<=n+2000:=by
 unfold Dz at h⊢
 split
 ·rename_i hc
  have h1:=En hc
  have h2:=AC (n:=(CG s.q.b).length) Aa
  simp only[List.length_append,DT];omega
 ·dsimp only;omega
theorem Ach (s:RS):(Dd s).q.b=s.q.b:=by unfold Dd;split<;>rfl
def VS (n:Nat) (s:Nat->RS) (x:RS):Prop:= ∃i,i<=n/\x=s i/\(i=n\/(s i).err≠none)/\ ∀j,j<i->(s j).err=none
theorem Tr.perm {P:Program} {n:Nat} {env:Env} {σ σ':St} {code:Code} {K:Exit->Env->St->Prop} (hs: ∀b,Am.look σ' b=Am.look σ b) (h:Tr P n code env σ' K):Tr P n code env σ K:=by
 unfold Tr at h⊢
 exact fun F hF hrf w g a hg=>h F hF hrf w g a (hg.eqv (fun _=>rfl) hs)
theorem T4 {A B:Blk} (b:Nat):Am.look [(1,A),(16,B)] b=Am.look [(16,B),(1,A)] b:=by
 simp only[Ao]
 by_cases h1:1=b
 ·subst h1;simp
 ·by_cases h2:16=b
  ·subst h2;simp
  ·simp[h1,h2]
theorem Ald (s:Nat->RS) (hs: ∀i,i<2->(∀j,j<=i->(s j).err=none)-> ∃f,([239,240]:List Nat)[i]?=some f/\A17 f [.ref 1 0] (wS (s i)) (.tuple []) (wS (s (i+1)))):CtF Tryz.prog 111 [.ref 1 0,.t (.int .i8 1)] (wS (s 0)) (VS 2 s) (fun _=>.tuple []) wS:=by
 refine ctF Ag Tryz.func111 Y Y ?_
 repeat'(first|exact prB|refine stA ?_|refine Cj (fun _ _ _ _=>?_)|refine stU (fun h=>?_) fun h=>?_|refine Bu (fun _ _ _ _ _=>?_)|refine Ca ?_|refine Ff Ad ?_|refine Fd Ad ?_|refine Fe Ad Y ?_|refine stN (fun b hb=>?_)|refine A0 Ag [(1,1)] [(1,1),(60,16)] Y Y Y Y Y (Ali (s 0)) Y Y Y Y Y ?_|fail)
 refine Tr.perm (σ':=[(1,.cells (RZ (s 0))),(16,.cells [clR 239,clR 240])]) T4 ?_
 refine A3 (ι:=Nat) (fun i=>i<=2/\ ∀j,j<i->(s j).err=none) (fun i=>[(0,.ref 1 0),(8,.row 16 1 0 2),(9,.t (.int .i64 2)),(10,.t (.int .i64 i))]) (fun i=>[(1,.cells (RZ (s i))),(16,.cells [clR 239,clR 240])]) (fun i=>2-i) 0 ⟨by omega,fun j hj=>by omega⟩ ?_ ?_
 ·exact AE [] (Af Y Y (Af Y Y (Af Y Y (Af Y Y Aj)))) Y
 rintro i ⟨hi,hpre⟩
 by_cases hlt:i<2
 ·cases he:(s i).err with
  |none=>
   have hj: ∀j,j<i+1->(s j).err=none:=fun j hj=>by
    by_cases e:j=i
    ·subst e;exact he
    ·exact hpre j Aa
   obtain⟨f,hf,hc⟩:=hs i hlt (fun j hjl=>hj j Aa)
   have hg:[clR 239,clR 240][0+i]?=some (clR f):=by
    rw[Nat.zero_add]
    show(List.map clR [239,240])[i]?=_
    rw[List.getElem?_map,hf];rfl
   generalize hx:s i=x at hc he
   obtain⟨xq,xb,xe⟩:=x
   dsimp only at he
   subst he
   repeat'(first|exact prB|refine stA ?_|refine Cj (fun _ _ _ _=>?_)|refine stU (fun h=>?_) fun h=>?_|refine Bu (fun _ _ _ _ _=>?_)|refine Ca ?_|refine Ff Ad ?_|refine Fd Ad ?_|refine Fe Ad Y ?_|refine stN (fun b hb=>?_)|refine CH Ag Y Y Y Y Y Y Y Y hlt Y ?_|refine JI Ag Y Y Y Y Y hg Y Y ?_|refine A0 Ag [(1,1)] [(1,1)] Y Y Y Y Y hc Y Y Y Y Y ?_|fail)
   refine Ay (i+1) ⟨by omega,hj⟩ Aa [] (Af Y Y (Af Y Y (Af Y Y (Af Y ?_ Aj)))) Y
   rw[An Aa Aa];rfl
  |some p=>
   have hV:VS 2 s (s i):=⟨i,hi,Y,.inr (by rw[he];simp),hpre⟩
   obtain⟨f,hf⟩: ∃f,([239,240]:List Nat)[i]?=some f:=⟨_,List.getElem?_eq_getElem hlt⟩
   have hg:[clR 239,clR 240][0+i]?=some (clR f):=by
    rw[Nat.zero_add]
    show(List.map clR [239,240])[i]?=_
    rw[List.getElem?_map,hf];rfl
   generalize hx:s i=x at hV he
   obtain⟨xq,xb,xe⟩:=x
   dsimp only at he
   subst he
   repeat'(first|exact prB|refine stA ?_|refine Cj (fun _ _ _ _=>?_)|refine stU (fun h=>?_) fun h=>?_|refine Bu (fun _ _ _ _ _=>?_)|refine Ca ?_|refine Ff Ad ?_|refine Fd Ad ?_|refine Fe Ad Y ?_|refine stN (fun b hb=>?_)|refine CH Ag Y Y Y Y Y Y Y Y hlt Y ?_|refine JI Ag Y Y Y Y Y hg Y Y ?_|fail)
   exact E7 _ hV [8] Y Y Y (A1x _)
 ·have e:i=2:=by omega
  subst e
  have hV:VS 2 s (s 2):=⟨2,hi,Y,.inl Y,hpre⟩
  repeat'(first|exact prB|refine stA ?_|refine Cj (fun _ _ _ _=>?_)|refine stU (fun h=>?_) fun h=>?_|refine Bu (fun _ _ _ _ _=>?_)|refine Ca ?_|refine Ff Ad ?_|refine Fd Ad ?_|refine Fe Ad Y ?_|refine stN (fun b hb=>?_)|fail)
  exact Aaf _ hV [8] Y Y Y (A1x _)
def JP (q:Req):Nat->RS:=fun i=>match i with
  |0=>⟨q,[],none⟩
  |1=>Fi ⟨q,[],none⟩
  |_=>Cz (Fi ⟨q,[],none⟩)
theorem Ar3 (q:Req) (hk:q.kind=1) (hq:q.b.recs.length<=1000000):CtF Tryz.prog 111 [.ref 1 0,.t (.int .i8 1)] (wS ⟨q,[],none⟩) (VR q) (fun _=>.tuple []) wS:=by
 have hw:=Ald (JP q) (fun i hi h=>by
  match i,hi,h with
  |0,_,h=>exact⟨_,Y,Acg (JP q 0) (h 0 Aa) (Nat.le_trans (Nat.le_refl 0) Aa)⟩
  |1,_,h=>exact⟨_,Y,Sx (JP q 1) (h 1 Aa) (Nat.le_trans (Q6 (JP q 0) 0 (h 1 Aa) (Nat.le_refl 0)) Aa)⟩
  |_+2,hi,_=>exact absurd hi Aa)
 refine CtF.imp hw fun x hx=>?_
 obtain⟨i,hi,rfl,hend,hpre⟩:=hx
 by_cases h0:0<=q.tid/\q.tid<=2
 ·skip
  by_cases h1:1<=q.timeout/\q.timeout<=20
  ·have hn: ∀j,j<=2->(JP q j).err=none:=fun j hj=>by
    match j,hj with
    |0,_=>simp[JP,Fi,Cz,h0,h1]
    |1,_=>simp[JP,Fi,Cz,h0,h1]
    |2,_=>simp[JP,Fi,Cz,h0,h1]
    |_+3,hj=>exact absurd hj Aa
   have e:i=2:=hend.elim id (fun h=>absurd (hn i hi) h)
   subst e
   exact⟨⟨fun _=>by simp[HI,hk,h0,h1],fun _=>hn 2 (Nat.le_refl _)⟩,fun _=>⟨by simp[JP,FN,hk,Fi,Cz,h0,h1],Nat.le_trans (Q5 (JP q 1) 6 (hn 2 Aa) (Q6 (JP q 0) 0 (hn 1 Aa) (Nat.le_refl 0))) Aa⟩⟩
  ·have hbad:(JP q 2).err≠none:=by simp[JP,Fi,Cz,h0,h1]
   have hne:(JP q i).err≠none:=fun e=>by
    rcases hend with rfl|h
    ·exact hbad e
    ·exact h e
   have hr:HI q=false:=by simp only[HI,hk];simp;grind
   exact⟨⟨fun e=>absurd e hne,fun e=>by rw[hr]at e;cases e⟩,fun e=>absurd e hne⟩
 ·have hbad:(JP q 1).err≠none:=by simp[JP,Fi,Cz,h0]
  have hne:(JP q i).err≠none:=fun e=>by
   rcases hend with rfl|h
   ·exact hbad (hpre 1 Aa)
   ·exact h e
  have hr:HI q=false:=by simp only[HI,hk];simp;grind
  exact⟨⟨fun e=>absurd e hne,fun e=>by rw[hr]at e;cases e⟩,fun e=>absurd e hne⟩
theorem Alc (s:Nat->RS) (hs: ∀i,i<2->(∀j,j<=i->(s j).err=none)-> ∃f,([241,242]:List Nat)[i]?=some f/\A17 f [.ref 1 0] (wS (s i)) (.tuple []) (wS (s (i+1)))):CtF Tryz.prog 111 [.ref 1 0,.t (.int .i8 2)] (wS (s 0)) (VS 2 s) (fun _=>.tuple []) wS:=by
 refine ctF Ag Tryz.func111 Y Y ?_
 repeat'(first|exact prB|refine stA ?_|refine Cj (fun _ _ _ _=>?_)|refine stU (fun h=>?_) fun h=>?_|refine Bu (fun _ _ _ _ _=>?_)|refine Ca ?_|refine Ff Ad ?_|refine Fd Ad ?_|refine Fe Ad Y ?_|refine stN (fun b hb=>?_)|refine A0 Ag [(1,1)] [(1,1),(70,16)] Y Y Y Y Y (Alh (s 0)) Y Y Y Y Y ?_|fail)
 refine Tr.perm (σ':=[(1,.cells (RZ (s 0))),(16,.cells [clR 241,clR 242])]) T4 ?_
 refine A3 (ι:=Nat) (fun i=>i<=2/\ ∀j,j<i->(s j).err=none) (fun i=>[(0,.ref 1 0),(8,.row 16 1 0 2),(9,.t (.int .i64 2)),(10,.t (.int .i64 i))]) (fun i=>[(1,.cells (RZ (s i))),(16,.cells [clR 241,clR 242])]) (fun i=>2-i) 0 ⟨by omega,fun j hj=>by omega⟩ ?_ ?_
 ·exact AE [] (Af Y Y (Af Y Y (Af Y Y (Af Y Y Aj)))) Y
 rintro i ⟨hi,hpre⟩
 by_cases hlt:i<2
 ·cases he:(s i).err with
  |none=>
   have hj: ∀j,j<i+1->(s j).err=none:=fun j hj=>by
    by_cases e:j=i
    ·subst e;exact he
    ·exact hpre j Aa
   obtain⟨f,hf,hc⟩:=hs i hlt (fun j hjl=>hj j Aa)
   have hg:[clR 241,clR 242][0+i]?=some (clR f):=by
    rw[Nat.zero_add]
    show(List.map clR [241,242])[i]?=_
    rw[List.getElem?_map,hf];rfl
   generalize hx:s i=x at hc he
   obtain⟨xq,xb,xe⟩:=x
   dsimp only at he
   subst he
   repeat'(first|exact prB|refine stA ?_|refine Cj (fun _ _ _ _=>?_)|refine stU (fun h=>?_) fun h=>?_|refine Bu (fun _ _ _ _ _=>?_)|refine Ca ?_|refine Ff Ad ?_|refine Fd Ad ?_|refine Fe Ad Y ?_|refine stN (fun b hb=>?_)|refine CH Ag Y Y Y Y Y Y Y Y hlt Y ?_|refine JI Ag Y Y Y Y Y hg Y Y ?_|refine A0 Ag [(1,1)] [(1,1)] Y Y Y Y Y hc Y Y Y Y Y ?_|fail)
   refine Ay (i+1) ⟨by omega,hj⟩ Aa [] (Af Y Y (Af Y Y (Af Y Y (Af Y ?_ Aj)))) Y
   rw[An Aa Aa];rfl
  |some p=>
   have hV:VS 2 s (s i):=⟨i,hi,Y,.inr (by rw[he];simp),hpre⟩
   obtain⟨f,hf⟩: ∃f,([241,242]:List Nat)[i]?=some f:=⟨_,List.getElem?_eq_getElem hlt⟩
   have hg:[clR 241,clR 242][0+i]?=some (clR f):=by
    rw[Nat.zero_add]
    show(List.map clR [241,242])[i]?=_
    rw[List.getElem?_map,hf];rfl
   generalize hx:s i=x at hV he
   obtain⟨xq,xb,xe⟩:=x
   dsimp only at he
   subst he
   repeat'(first|exact prB|refine stA ?_|refine Cj (fun _ _ _ _=>?_)|refine stU (fun h=>?_) fun h=>?_|refine Bu (fun _ _ _ _ _=>?_)|refine Ca ?_|refine Ff Ad ?_|refine Fd Ad ?_|refine Fe Ad Y ?_|refine stN (fun b hb=>?_)|refine CH Ag Y Y Y Y Y Y Y Y hlt Y ?_|refine JI Ag Y Y Y Y Y hg Y Y ?_|fail)
   exact E7 _ hV [8] Y Y Y (A1x _)
 ·have e:i=2:=by omega
  subst e
  have hV:VS 2 s (s 2):=⟨2,hi,Y,.inl Y,hpre⟩
  repeat'(first|exact prB|refine stA ?_|refine Cj (fun _ _ _ _=>?_)|refine stU (fun h=>?_) fun h=>?_|refine Bu (fun _ _ _ _ _=>?_)|refine Ca ?_|refine Ff Ad ?_|refine Fd Ad ?_|refine Fe Ad Y ?_|refine stN (fun b hb=>?_)|fail)
  exact Aaf _ hV [8] Y Y Y (A1x _)
def LK (q:Req):Nat->RS:=fun i=>match i with
  |0=>⟨q,[],none⟩
  |1=>Dd ⟨q,[],none⟩
  |_=>Dz (Dd ⟨q,[],none⟩)
theorem Ar2 (q:Req) (hk:q.kind=2) (hq:q.b.recs.length<=1000000):CtF Tryz.prog 111 [.ref 1 0,.t (.int .i8 2)] (wS ⟨q,[],none⟩) (VR q) (fun _=>.tuple []) wS:=by
 have hw:=Alc (LK q) (fun i hi h=>by
  match i,hi,h with
  |0,_,h=>exact⟨_,Y,Yz (LK q 0) (h 0 Aa) (Nat.le_trans (Nat.le_refl 0) Aa)⟩
  |1,_,h=>exact⟨_,Y,VU _ (h 1 Aa) (Nat.le_trans (OK ⟨q,[],none⟩ 0 (h 1 Aa) (Nat.le_refl 0)) Aa) (show(Dd ⟨q,[],none⟩).q.b.recs.length<=1000000 by rw[Ach];exact hq)⟩
  |_+2,hi,_=>exact absurd hi Aa)
 refine CtF.imp hw fun x hx=>?_
 obtain⟨i,hi,rfl,hend,hpre⟩:=hx
 by_cases h0:0<=q.part/\q.part<=2
 ·skip
  by_cases h1:A9 q.b=true
  ·have hn: ∀j,j<=2->(LK q j).err=none:=fun j hj=>by
    match j,hj with
    |0,_=>simp[LK,Dd,Dz,h0,h1]
    |1,_=>simp[LK,Dd,Dz,h0,h1]
    |2,_=>simp[LK,Dd,Dz,h0,h1]
    |_+3,hj=>exact absurd hj Aa
   have e:i=2:=hend.elim id (fun h=>absurd (hn i hi) h)
   subst e
   exact⟨⟨fun _=>by simp[HI,hk,h0,h1],fun _=>hn 2 (Nat.le_refl _)⟩,fun _=>⟨by simp[LK,FN,hk,Dd,Dz,h0,h1],Nat.le_trans (U6 (LK q 1) 6 (hn 2 Aa) (OK (LK q 0) 0 (hn 1 Aa) (Nat.le_refl 0))) Aa⟩⟩
  ·have hbad:(LK q 2).err≠none:=by simp[LK,Dd,Dz,h0,h1]
   have hne:(LK q i).err≠none:=fun e=>by
    rcases hend with rfl|h
    ·exact hbad e
    ·exact h e
   have hr:HI q=false:=by simp only[HI,hk];simp;grind
   exact⟨⟨fun e=>absurd e hne,fun e=>by rw[hr]at e;cases e⟩,fun e=>absurd e hne⟩
 ·have hbad:(LK q 1).err≠none:=by simp[LK,Dd,Dz,h0]
  have hne:(LK q i).err≠none:=fun e=>by
   rcases hend with rfl|h
   ·exact hbad (hpre 1 Aa)
   ·exact h e
  have hr:HI q=false:=by simp only[HI,hk];simp;grind
  exact⟨⟨fun e=>absurd e hne,fun e=>by rw[hr]at e;cases e⟩,fun e=>absurd e hne⟩
theorem Acx (a b:Req) (ha:a.b.recs.length<=1000000):A17 112 [.agg (Ah (BL a)),.agg (Ah (BL b))] [] (.t (.bool (decide (a=b)))) []:=by
 refine ct0 Ag Tryz.func112 Y false Y Y ?_
 repeat'(first|exact prB|refine stC ?_|refine stU (fun h=>?_) fun h=>?_|refine stN (fun b hb=>?_)|refine stL ?_ (c:=Wk a.b b.b ha)|fail)
 ·refine Ai Y (AP (bI ?_))
  rcases a with⟨a1,a2,a3,a4,a5,a6,a7,a8,a9,a10,a11⟩
  rcases b with⟨b1,b2,b3,b4,b5,b6,b7,b8,b9,b10,b11⟩
  simp at*;simp[*]
 all_goals exact Ai Y (AP (bF (fun e=>by subst e;simp at*)))
theorem OO (q:Req):(FN q=Ac1 q.kind)↔(UZ q=q):=by
 rcases q with⟨k,t,to,p,e,pa,g,o,m,y,b⟩
 simp only[FN,UZ,Ac1]
 repeat' split
 all_goals(try(exfalso;omega))
 all_goals(constructor<;>intro h<;>simp_all<;>omega)
def wS0 (q:Req):St:=[(1,.cells [AV.t T.nilPtr,AV.t (T.int .i8 q.kind),AV.t (T.int .i64 q.tid),AV.t (T.int .i64 q.timeout),AV.t (T.int .i64 q.pid),AV.t (T.int .i64 q.epoch),AV.t (T.int .i64 q.part),AV.t (T.int .i64 q.group),AV.t (T.int .i64 q.offset),AV.t (T.int .i64 q.most),AV.t (T.bool q.yes),AV.t (T.int .i64 q.b.pid),AV.t (T.int .i64 q.b.epoch),AV.t (T.int .i64 q.b.seq),AV.t (T.bool q.b.txn),AV.t (T.slice .any 2 (q.b.recs.map AJ)),AV.t (T.slice .nil 0 []),AV.t T.nilIface])]
theorem Ak0 (q:Req):SP (wS0 q) (wS ⟨q,[],none⟩):=
 ⟨⟨Y,show DU _ _ from⟨A1x _,A1x _,A1x _,A1x _,A1x _,A1x _,A1x _,A1x _,A1x _,A1x _,A1x _,A1x _,A1x _,A1x _,A1x _,A1x _,Ak,A1x _,trivial⟩⟩,trivial⟩
theorem CtF.weakS {P:Program} {f:Nat} {xs:List AV} {σ σ0:St} {ι:Type} {V:ι->Prop} {r:ι->AV} {s:ι->St} (h:CtF P f xs σ0 V r s) (hσ:SP σ σ0):CtF P f xs σ V r s:=
 ⟨h.1,fun vs w g hr hi=>h.2 vs w g hr (hσ.inv hi)⟩
theorem Wq (q:Req) (hq:q.b.recs.length<=1000000):(FN q).b.recs.length<=1000000:=by
 unfold FN;repeat' split
 all_goals(first|exact hq|(simp[Mp];done)|omega)
def Azi (q:Req):Prop:=CtF Tryz.prog 111 [.ref 1 0,.t (.int .i8 q.kind)] (wS ⟨q,[],none⟩) (VR q) (fun _=>.tuple []) wS
theorem Acw (q:Req) (hq:q.b.recs.length<=1000000) (ha:Azi q):CtF Tryz.prog 52 [.agg (Ah (BL q))] [] (fun p:T×T=>(Hh q=true/\p.2=.nilIface)\/(Hh q=false/\ ∃f n,p.2=.iface 204 (.ptr [.str f,.int .i64 n]))) (fun p=>.tuple [.t p.1,.t p.2]) (fun _=>[]):=by
 refine ctF Ag Tryz.func52 Y Y ?_
 repeat'(first|exact prB|refine stC ?_|refine stU (fun h=>?_) fun h=>?_|refine stN (fun b hb=>?_)|refine stD 4 5 ?_|refine stD 5 7 ?_|refine stD 7 8 ?_|refine HD Ag [(14,1)] [(1,14)] Y Y Y Y Y (CtF.weakS ha (Ak0 q)) Y (fun _ _=>rfl) (fun _ _=>rfl) (fun _ _=>rfl) (fun j hj=>?_)|fail)
 obtain⟨jq,jb,je⟩:=j
 obtain⟨h1,h2⟩:=hj
 cases je with
 |some fn=>
  have hm:Hh q=false:=by
   cases hr:HI q with
   |false=>simp[Hh,hr]
   |true=>have:=h1.2 hr;cases this
  repeat'(first|exact prB|refine stC ?_|refine stU (fun h=>?_) fun h=>?_|refine stN (fun b hb=>?_)|refine stD 4 5 ?_|refine stD 5 7 ?_|refine stD 7 8 ?_|fail)
  exact E7 (_,_) (.inr ⟨hm,_,_,Y⟩) [1,7] Y Y Y (A1x _)
 |none=>
  have hr:HI q=true:=h1.1 Y
  have hjb:jb.length<=10000:=(h2 Y).2
  have hjq:jq=FN q:=(h2 Y).1
  subst hjq
  have cs:A17 112 [.agg (Ah (BL (FN q))),.agg [AV.t (T.int .i8 q.kind),AV.t (T.int .i64 0),AV.t (T.int .i64 0),AV.t (T.int .i64 0),AV.t (T.int .i64 0),AV.t (T.int .i64 0),AV.t (T.int .i64 0),AV.t (T.int .i64 0),AV.t (T.int .i64 0),AV.t (T.bool false),AV.t (T.int .i64 0),AV.t (T.int .i64 0),AV.t (T.int .i64 0),AV.t (T.bool false),AV.t (T.slice .nil 0 [])]] [] _ []:=
   (Acx (FN q) (Ac1 q.kind) (Wq q hq)).args ⟨A1x _,AA (show DU _ _ from⟨A1x _,A1x _,A1x _,A1x _,A1x _,A1x _,A1x _,A1x _,A1x _,A1x _,A1x _,A1x _,A1x _,A1x _,Ak,trivial⟩),trivial⟩
  by_cases ho:UZ q=q
  ·have hm:Hh q=true:=by simp[Hh,hr,ho]
   rw[decide_eq_true ((OO q).2 ho)]at cs
   repeat'(first|exact prB|refine stC ?_|refine stU (fun h=>?_) fun h=>?_|refine stN (fun b hb=>?_)|refine stD 4 5 ?_|refine stD 5 7 ?_|refine stD 7 8 ?_|refine stM ?_ (c:=cs)|refine stL ?_ (c:=cs)|refine Acb Ag Y Y Y Y Y Y Y Y Y Y Y Y (by simp[Bq];omega) ?_|fail)
   exact E7 (_,_) (.inl ⟨hm,Y⟩) [1,7] Y Y Y (A1x _)
  ·have hm:Hh q=false:=by simp[Hh,hr,ho]
   rw[decide_eq_false (fun e=>ho ((OO q).1 e))]at cs
   repeat'(first|exact prB|refine stC ?_|refine stU (fun h=>?_) fun h=>?_|refine stN (fun b hb=>?_)|refine stD 4 5 ?_|refine stD 5 7 ?_|refine stD 7 8 ?_|refine stM ?_ (c:=cs)|refine stL ?_ (c:=cs)|fail)
   exact E7 (_,_) (.inr ⟨hm,_,_,Y⟩) [1,7] Y Y Y (A1x _)
theorem Aat (q:Req) (hq:q.b.recs.length<=1000000) (ha:Azi q):A17 25 [.agg (Ah (BL q))] [] (.t (.bool (Hh q))) []:=by
 refine ct0 Ag Tryz.func25 Y false Y Y ?_
 repeat'(first|exact prB|refine stC ?_|refine stU (fun h=>?_) fun h=>?_|refine stN (fun b hb=>?_)|refine HD Ag [] [] Y Y Y Y Y (Acw q hq ha) Y (fun _ _=>rfl) (fun _ _=>rfl) (fun _ _=>rfl) (fun j hj=>?_)|fail)
 obtain⟨jx,je⟩:=j
 rcases hj with⟨hm,rfl⟩|⟨hm,f,n,rfl⟩
 all_goals
  rw[hm]
  repeat'(first|exact prB|refine stC ?_|refine stU (fun h=>?_) fun h=>?_|refine stN (fun b hb=>?_)|fail)
  exact Ai Y (A1y Y)
end Go.Proofs.YtmohpcgmdheafaaGreatDoor
