/- Contracts and laws, joined: Wbb, Wbt. No condition beside those that each theorem names. -/
import Derived.Test.YthjoclecnacdiaaGreatDoorZWb
import Derived.Test.YthjoclecnacdiaaGreatDoorZM11
import Derived.Test.YthjoclecnacdiaaGreatDoorZE2
import Derived.Test.YthjoclecnacdiaaGreatDoorZE1
import Derived.Test.YthjoclecnacdiaaGreatDoorZJ4b
import Derived.Test.YthjoclecnacdiaaGreatDoorZPf
import Derived.Test.YthjoclecnacdiaaGreatDoorZW1
set_option linter.unusedVariables false
set_option linter.unusedSimpArgs false
namespace Go.Proofs.YthjoclecnacdiaaGreatDoor
open Go.Am
attribute [local irreducible] Decidable.decide
set_option maxRecDepth 100000
set_option maxHeartbeats 1000000
theorem Ve (q:Req) (b:Bs) (hb:b.length≤1000000):Ct Tryz.prog 109 [.ref 1 0] (wS ⟨q,b,none⟩) (.tuple []) (wS ⟨{q with yes:=false},b++GD q.yes,none⟩):=by
 refine ct1 Ab Tryz.func109 J J ?_
 repeat'(first|refine Ak Ab J J J J J ?_|refine Ap Ab J J J ?_|refine A0 ?_|refine A9 ?_|refine Aw Ab J J ?_|(refine A1 J J J J J (ht:=fun h=>?_) (hf:=fun h=>?_)<;>try exact prn)|(refine A2 J J J J J (ht:=fun h=>?_) (hf:=fun h=>?_)<;>try exact prn)|refine Ag J J J J J ?_|(refine Al J (ht:=fun h=>?_) (hf:=fun h=>?_)<;>try exact prn)|refine Au ?_|refine Aq ?_|refine Ar ?_|refine A3 ?_|refine Aj Ab J J J J J J J (Ac Z) J ?_|refine Ae Ab J J J J J J J Z (Ac Z) J ?_|refine Ah Ab J J J J J J J J J J J J J (by simp[Ad];omega) ?_|refine Af Ab J J J J J J J J J J J J J J (by simp[Ad];omega) ?_|refine As J J J J ?_|refine A4 ?_|(refine A5 J J J J J (ht:=fun h=>?_) (hf:=fun h=>?_)<;>try exact prn)|(refine A6 J J J J J (ht:=fun h=>?_) (hf:=fun h=>?_)<;>try exact prn)|refine Ai J J J J J ?_|refine An J J J J J J J (Ac Z) J ?_|refine UP Ab 14 (id:=2) (m:=15) (x0:=.t (.slice .any 1 ((b++GD q.yes).map Bo))) (ys:=[.t (.slice .any 1 ((b++GD q.yes).map Bo))]) (lab:=1) (off:=16) U J J J J J J J U J J J J J ?_ J|refine⟨J,J,?_⟩|refine Bv J J J J J (P3 b q.yes O) J J ?_)
 all_goals exact Bx [] J J J (Sub.refl _)
end Go.Proofs.YthjoclecnacdiaaGreatDoor
namespace Go.Proofs.YthjoclecnacdiaaGreatDoor
open Go.Am
attribute [local irreducible] Decidable.decide
set_option maxRecDepth 100000
set_option maxHeartbeats 1000000
theorem Ct.weakP {P:Program} {f:Nat} {xs:List AV} {σ σ1 σ2:St} {r:AV} (h:Ct P f xs σ r σ1) (hσ:Oj σ1 σ2):Ct P f xs σ r σ2:=
 ⟨h.1,fun vs w g hr hi=>(h.2 vs w g hr hi).mono fun e w' ⟨v,g',he,hx,hv,hi'⟩=>⟨v,g',he,hx,hv,hσ.inv hi'⟩⟩
theorem PR:Y6 296 1:=fun pb po t n old w h1 h2 h3 h4=>(U8 pb po t n old w h1 h2 h3 h4).mono fun ev w' h=>⟨h.1,_,_,_,_,h.2⟩
theorem SA (s:Bs) (n:Int):Ct Tryz.prog 190 [.t (Fj 296 s n)] [] (.t (.int .i64 n)) []:=by
 refine ct0 Ab Tryz.func190 J false J J ?_
 repeat'(first|refine Ak Ab J J J J J ?_|refine Ap Ab J J J ?_|refine A0 ?_|refine AP (fun _ _ _ _=>?_)|refine Aw Ab J J ?_|(refine A1 J J J J J (ht:=fun h=>?_) (hf:=fun h=>?_)<;>try exact prn)|(refine A2 J J J J J (ht:=fun h=>?_) (hf:=fun h=>?_)<;>try exact prn)|refine Ag J J J J J ?_|(refine Al J (ht:=fun h=>?_) (hf:=fun h=>?_)<;>try exact prn)|refine AG (fun _ _ _ _ _=>?_)|refine Aq ?_|refine Ar ?_|refine A3 ?_|refine Aj Ab J J J J J J J (Ac Z) J ?_|refine Ae Ab J J J J J J J Z (Ac Z) J ?_|refine Ah Ab J J J J J J J J J J J J J (by simp[Ad];omega) ?_|refine Af Ab J J J J J J J J J J J J J J (by simp[Ad];omega) ?_|refine BH Z ?_|refine BF Z ?_|refine BG Z J ?_|refine As J J J J ?_|refine A4 ?_|(refine A5 J J J J J (ht:=fun h=>?_) (hf:=fun h=>?_)<;>try exact prn)|(refine A6 J J J J J (ht:=fun h=>?_) (hf:=fun h=>?_)<;>try exact prn)|refine Ai J J J J J ?_|refine An J J J J J J J (Ac Z) J ?_|refine AR Ab [(6,1)] [(1,6)] J J J J J (XE PR [.str s,.int .i64 n] n 0 J) J J J J J ?_)
 all_goals exact AC J (Sub.of_eq J)
theorem Sd (b:Batch) (hb:B3 b=false) (hl:b.recs.length≤1000000):Ct Tryz.prog 189 [.agg (AA (Bj b))] [] (.tuple [.t (.slice .nil 0 []),.t (Fj 296 [97,32,98,97,116,99,104] 2)]) []:=by
 have cm:Ct Tryz.prog 128 [.agg (AA (Bj b))] [] (.t (.bool false)) []:=hb▸NL b O
 refine ct0 Ab Tryz.func189 J false J J ?_
 repeat'(first|refine Ak Ab J J J J J ?_|refine Ap Ab J J J ?_|refine A0 ?_|refine AP (fun _ _ _ _=>?_)|refine Aw Ab J J ?_|(refine A1 J J J J J (ht:=fun h=>?_) (hf:=fun h=>?_)<;>try exact prn)|(refine A2 J J J J J (ht:=fun h=>?_) (hf:=fun h=>?_)<;>try exact prn)|refine Ag J J J J J ?_|(refine Al J (ht:=fun h=>?_) (hf:=fun h=>?_)<;>try exact prn)|refine AG (fun _ _ _ _ _=>?_)|refine Aq ?_|refine Ar ?_|refine A3 ?_|refine Aj Ab J J J J J J J (Ac Z) J ?_|refine Ae Ab J J J J J J J Z (Ac Z) J ?_|refine Ah Ab J J J J J J J J J J J J J (by simp[Ad];omega) ?_|refine Af Ab J J J J J J J J J J J J J J (by simp[Ad];omega) ?_|refine BH Z ?_|refine BF Z ?_|refine BG Z J ?_|refine AD (id:=19) (m:=5) Ab U J J J J ?_|refine As J J J J ?_|refine A4 ?_|(refine A5 J J J J J (ht:=fun h=>?_) (hf:=fun h=>?_)<;>try exact prn)|(refine A6 J J J J J (ht:=fun h=>?_) (hf:=fun h=>?_)<;>try exact prn)|refine Ai J J J J J ?_|refine An J J J J J J J (Ac Z) J ?_|refine A7 Ab J J J J J J J (cm) J J ?_)
 exact AC J (Sub.of_eq J)
theorem Q4 (b:Batch) (hb:B3 b=false) (hl:b.recs.length≤1000000):Ct Tryz.prog 146 [.agg (AA (Bj b))] [] (.tuple [.t (.str []),.t (.int .i64 2)]) []:=by
 refine ct0 Ab Tryz.func146 J false J J ?_
 repeat'(first|refine Ak Ab J J J J J ?_|refine Ap Ab J J J ?_|refine A0 ?_|refine AP (fun _ _ _ _=>?_)|refine Aw Ab J J ?_|(refine A1 J J J J J (ht:=fun h=>?_) (hf:=fun h=>?_)<;>try exact prn)|(refine A2 J J J J J (ht:=fun h=>?_) (hf:=fun h=>?_)<;>try exact prn)|refine Ag J J J J J ?_|(refine Al J (ht:=fun h=>?_) (hf:=fun h=>?_)<;>try exact prn)|refine AG (fun _ _ _ _ _=>?_)|refine Aq ?_|refine Ar ?_|refine A3 ?_|refine Aj Ab J J J J J J J (Ac Z) J ?_|refine Ae Ab J J J J J J J Z (Ac Z) J ?_|refine Ah Ab J J J J J J J J J J J J J (by simp[Ad];omega) ?_|refine Af Ab J J J J J J J J J J J J J J (by simp[Ad];omega) ?_|refine BH Z ?_|refine BF Z ?_|refine BG Z J ?_|refine As J J J J ?_|refine A4 ?_|(refine A5 J J J J J (ht:=fun h=>?_) (hf:=fun h=>?_)<;>try exact prn)|(refine A6 J J J J J (ht:=fun h=>?_) (hf:=fun h=>?_)<;>try exact prn)|refine Ai J J J J J ?_|refine An J J J J J J J (Ac Z) J ?_|refine A7 Ab J J J J J J J (Sd b hb hl) J J ?_|refine A7 Ab J J J J J J J (SA _ _) J J ?_)
 exact AC J (Sub.of_eq J)
def wSn (q:Req) (b:Bs):St:=[(1,.cells [AV.t T.nilPtr,AV.t (T.int .i8 q.kind),AV.t (T.int .i64 q.tid),AV.t (T.int .i64 q.timeout),AV.t (T.int .i64 q.pid),AV.t (T.int .i64 q.epoch),AV.t (T.int .i64 q.part),AV.t (T.int .i64 q.group),AV.t (T.int .i64 q.offset),AV.t (T.int .i64 q.most),AV.t (T.bool q.yes),AV.t (T.int .i64 0),AV.t (T.int .i64 0),AV.t (T.int .i64 0),AV.t (T.bool false),AV.t (T.slice .nil 0 []),AV.t (T.slice .any 1 (b.map Bo)),AV.t T.nilIface])]
theorem US (q:Req) (b:Bs):Oj (wSn q b) (wS ⟨{q with b:=EB},b,none⟩):=
 ⟨⟨J,show Dm _ _ from⟨Sub.refl _,Sub.refl _,Sub.refl _,Sub.refl _,Sub.refl _,Sub.refl _,Sub.refl _,Sub.refl _,Sub.refl _,Sub.refl _,Sub.refl _,Sub.refl _,Sub.refl _,Sub.refl _,Sub.refl _,AY,Sub.refl _,Sub.refl _,trivial⟩⟩,trivial⟩
theorem SC (q:Req) (b:Bs) (hb:b.length≤1000000) (hm:B3 q.b=true):Ct Tryz.prog 106 [.ref 1 0] (wS ⟨q,b,none⟩) (.tuple []) (wS ⟨{q with b:=EB},b++G6 (FG q.b),none⟩):=by
 have hl:=Mi hm
 refine Ct.weakP ?_ (US q (b++G6 (FG q.b)))
 refine ct1 Ab Tryz.func106 J J ?_
 repeat'(first|refine Ak Ab J J J J J ?_|refine Ap Ab J J J ?_|refine A0 ?_|refine AP (fun _ _ _ _=>?_)|refine Aw Ab J J ?_|(refine A1 J J J J J (ht:=fun h=>?_) (hf:=fun h=>?_)<;>try exact prn)|(refine A2 J J J J J (ht:=fun h=>?_) (hf:=fun h=>?_)<;>try exact prn)|refine Ag J J J J J ?_|(refine Al J (ht:=fun h=>?_) (hf:=fun h=>?_)<;>try exact prn)|refine AG (fun _ _ _ _ _=>?_)|refine Aq ?_|refine Ar ?_|refine A3 ?_|refine Aj Ab J J J J J J J (Ac Z) J ?_|refine Ae Ab J J J J J J J Z (Ac Z) J ?_|refine Ah Ab J J J J J J J J J J J J J (by simp[Ad];omega) ?_|refine Af Ab J J J J J J J J J J J J J J (by simp[Ad];omega) ?_|refine BH Z ?_|refine BF Z ?_|refine BG Z J ?_|refine As J J J J ?_|refine A4 ?_|(refine A5 J J J J J (ht:=fun h=>?_) (hf:=fun h=>?_)<;>try exact prn)|(refine A6 J J J J J (ht:=fun h=>?_) (hf:=fun h=>?_)<;>try exact prn)|refine Ai J J J J J ?_|refine An J J J J J J J (Ac Z) J ?_|refine A7 Ab J J J J J J J (SB q.b hm) J J ?_|refine A7 Ab J J J J J J J (Pv b (FG q.b) O O) J J ?_)
 all_goals first|exact Bx [] J J J (Sub.refl _)|exact BO [] J J J (Sub.refl _)
theorem SD (q:Req) (b:Bs) (hm:B3 q.b=false) (hl:q.b.recs.length≤1000000):Ct Tryz.prog 106 [.ref 1 0] (wS ⟨q,b,none⟩) (.tuple []) (wS ⟨q,b,some ([66],2)⟩):=by
 refine ct1 Ab Tryz.func106 J J ?_
 repeat'(first|refine Ak Ab J J J J J ?_|refine Ap Ab J J J ?_|refine A0 ?_|refine AP (fun _ _ _ _=>?_)|refine Aw Ab J J ?_|(refine A1 J J J J J (ht:=fun h=>?_) (hf:=fun h=>?_)<;>try exact prn)|(refine A2 J J J J J (ht:=fun h=>?_) (hf:=fun h=>?_)<;>try exact prn)|refine Ag J J J J J ?_|(refine Al J (ht:=fun h=>?_) (hf:=fun h=>?_)<;>try exact prn)|refine AG (fun _ _ _ _ _=>?_)|refine Aq ?_|refine Ar ?_|refine A3 ?_|refine Aj Ab J J J J J J J (Ac Z) J ?_|refine Ae Ab J J J J J J J Z (Ac Z) J ?_|refine Ah Ab J J J J J J J J J J J J J (by simp[Ad];omega) ?_|refine Af Ab J J J J J J J J J J J J J J (by simp[Ad];omega) ?_|refine BH Z ?_|refine BF Z ?_|refine BG Z J ?_|refine As J J J J ?_|refine A4 ?_|(refine A5 J J J J J (ht:=fun h=>?_) (hf:=fun h=>?_)<;>try exact prn)|(refine A6 J J J J J (ht:=fun h=>?_) (hf:=fun h=>?_)<;>try exact prn)|refine Ai J J J J J ?_|refine An J J J J J J J (Ac Z) J ?_|refine A7 Ab J J J J J J J (Q4 q.b hm hl) J J ?_|refine AR Ab [(1,1)] [(1,1)] J J J J J (Da q b _ 2) J J J J J ?_)
 all_goals first|exact Bx [] J J J (Sub.refl _)|exact BO [] J J J (Sub.refl _)
end Go.Proofs.YthjoclecnacdiaaGreatDoor
