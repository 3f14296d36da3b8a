/- Lemmas toward the law; each names its conditions. -/
import Derived.Test.YtppffhlbcgpgdaaGreatDoorYT1
import Derived.Test.YtppffhlbcgpgdaaGreatDoorYM12
set_option linter.all false
set_option maxRecDepth 100000
set_option maxHeartbeats 8000000
namespace Go.Proofs.YtppffhlbcgpgdaaGreatDoor
open Go.Am
abbrev A3z:=@Ct Tryz.prog
attribute [local irreducible] Decidable.decide
structure Br (q:Prop):Prop where
 h:q
theorem Tt {P:Program} {n:Nat} {ops:Array Oper} {l:List Oper} {e:A2} {s:St} {k:A2->St->Prop} (h:A6 P n ops l e s k):A6 P n ops l e s k:=h
theorem Xc {P:Program} {n:Nat} {ops:Array Oper} {o:Oper} {l:List Oper} {e:A2} {s:St} {k:A2->St->Prop} (hg:o.guard=none) (h:A6 P n ops (o::l) e s k):A6 P n ops (o::l) e s k:=h
theorem Xd {P:Program} {c:Conf} {n:Nat} {ops:Array Oper} {o:Oper} {l:List Oper} {ns:List Nat} {e:A2} {s:St} {k:A2->St->Prop} (hg:o.guard=none) (h:CG P c n ops ns (o::l) e s k):CG P c n ops ns (o::l) e s k:=h
theorem Qx {P:Program} {n:Nat} {e:A2} {s:St} {a:Code} {k:Exit->A2->St->Prop} (h:Tr P n a e s k):Tr P n a e s k:=h
theorem WR {P:Program} {c:Conf} {n:Nat} {ops:Array Oper} {l:List Oper} {ns:List Nat} {e:A2} {s:St} {k:A2->St->Prop} (h:CG P c n ops ns l e s k):CG P c n ops ns l e s k:=h
theorem Xb {P:Program} {c:Conf} {n:Nat} {ops:Array Oper} {l:List Oper} {ns:List Nat} {ex:Nat->List Nat} {sl:List (Nat×Nat)} {i:Nat} {e:A2} {s:St} {k:A2->St->Prop} (h:EJ P c n ops ns ex sl i l e s k):EJ P c n ops ns ex sl i l e s k:=h
theorem Xx {q p:Prop} (k:q) (h:q->p:=by
 intro x
 first
  |((with_reducible refine Tt ?_);first
    |((refine Xc Y ?_);first
     |exact Aox Ai Y Y Y Y Y x
     |exact DQ Ai Y Y Y x
     |exact HM Ai Y Y Y Y Y Y Y (C8 Ad) Y x
     |exact KN Ai Y Y Y Y Y Y Y Ad (C8 Ad) Y x
     |exact Ai7 Ai Y Y Y Y Y Y Y Y Y Y Y Y Y (by simp[CH];omega) x
     |exact WH Ai Y Y Y Y Y Y Y Y Y Y Y Y Y Y (by simp[CH];omega) x)
    |exact Asm x
    |exact Ai4 Y Y Y Y Y x)
  |((with_reducible refine Qx ?_);first|exact Jx Ai Y Y x|exact Ath x|exact Ato x)
  |((with_reducible refine WR ?_);first
    |((refine Xd Y ?_);first
     |exact R9 Y Y Y Y x
     |exact Apg Y Y Y Y Y Y Y (C8 Ad) Y x
     |exact Ajv Y Y Y Y Y Y Y Ad (C8 Ad) Y x)
    |exact Azs x
    |exact Ajw Y Y Y Y Y x)
  |with_reducible exact Br.mk x
  |((with_reducible refine Xb ?_);first|exact Aot Y Y Y Y Y Y Y Y Y Y Y x|exact Av3 Y Y x|exact Av4 x)):p:=h k
theorem Wh {q p:Prop} (k:q) (h:q->p:=by
 intro x
 first
  |((with_reducible refine Qx ?_);first|exact HA x|exact Vs x|exact Xx x)
  |exact Xx x):p:=h k
theorem Wd {q p:Prop} (k:q) (h:q->p:=by
 intro x
 first
  |((with_reducible refine Qx ?_);first|exact HA x|exact Vs x|exact B3 x|exact Xx x)
  |exact Xx x):p:=h k
theorem Ri {c d q r p:Prop} (k:c->Br q) (l:d->Br r) (h:(c->q)->(d->r)->p:=by
 intro a b
 first
  |((with_reducible refine Tt ?_);first|exact Av7 Y Y Y Y Y (ht:=a) (hf:=b)|exact Av8 Y Y Y Y Y (ht:=a) (hf:=b))
  |((with_reducible refine Qx ?_);exact Ao0 Y (ht:=a) (hf:=b))
  |((with_reducible refine WR ?_);first|exact Azt Y Y Y Y Y (ht:=a) (hf:=b)|exact Azu Y Y Y Y Y (ht:=a) (hf:=b))):p:=h (λx=>(k x).h) (λx=>(l x).h)
theorem PA {c q:Bool->Prop} {p:Prop} (k: ∀b,c b->q b) (h:(∀b,c b->q b)->p:=by
 intro x;(with_reducible refine Tt ?_);exact Atl Ai Y Y Y Y Y (λ_=>rfl) x):p:=h k
structure Fo (c q:Prop):Prop where
 h:c->q
structure FoN (c q:Bool->Prop):Prop where
 h: ∀b,Fo (c b) (q b)
structure Clo (p:Prop):Prop where
 h:p
theorem Xg:Clo (Br True):=⟨⟨trivial⟩⟩
theorem Xh {q:Prop} (h:False):Clo (Br q):=h.elim
theorem Au {p:Prop} (g:Clo p:=by first|with_reducible exact Xg|(with_reducible refine Xh ?_;first|with_reducible exact h.elim|with_reducible exact nT h|with_reducible exact h.elim (λx=>x)|(with_reducible contradiction)|omega|(simp only[Ts]at h;omega))):p:=g.h
theorem one {A p:Prop} (f:A->p) (x:A) (_:Br True):p:=f x
theorem yC {A B p:Prop} (k:A) (l:B) (h:A->B->p:=by
 intro x y
 first
  |exact one (λx=>Wd x) x y
  |exact Ri (λh=>Fo.h x h) (λh=>Fo.h y h)
  |exact one (λx=>PA (λb h=>Fo.h (FoN.h x b) h)) x y
  |((with_reducible refine Tt ?_);exact one (λx=>Ji Ai Y Y Y Y Y Y Y Ad (by exact rfl) (by exact rfl) x) x y)
  |((with_reducible refine WR ?_);exact one (λx=>Jm Y Y Y Y Y Ad (by exact rfl) (by exact rfl) x) x y)):p:=h k l
theorem yB {A B p:Prop} (k:A) (l:B) (h:A->B->p:=by
 intro x y
 first
  |exact one (λx=>Wh x) x y
  |exact Ri (λh=>Fo.h x h) (λh=>Fo.h y h)
  |exact one (λx=>PA (λb h=>Fo.h (FoN.h x b) h)) x y
  |((with_reducible refine Tt ?_);exact one (λx=>Ji Ai Y Y Y Y Y Y Y Ad (by exact rfl) (by exact rfl) x) x y)
  |((with_reducible refine WR ?_);exact one (λx=>Jm Y Y Y Y Y Ad (by exact rfl) (by exact rfl) x) x y)):p:=h k l
theorem yA {A B p:Prop} (k:A) (l:B) (h:A->B->p:=by
 intro x y
 first
  |exact one (λx=>Xx x) x y
  |exact Ri (λh=>Fo.h x h) (λh=>Fo.h y h)
  |exact one (λx=>PA (λb h=>Fo.h (FoN.h x b) h)) x y
  |((with_reducible refine Tt ?_);exact one (λx=>Ji Ai Y Y Y Y Y Y Y Ad (by exact rfl) (by exact rfl) x) x y)
  |((with_reducible refine WR ?_);exact one (λx=>Jm Y Y Y Y Y Ad (by exact rfl) (by exact rfl) x) x y)):p:=h k l
def DP (m id:Nat) (q p:Prop):Prop:=q->p
theorem Adl {P:Program} {c:Conf} {n:Nat} {env:A2} {σ:St} {K:Exit->A2->St->Prop} {ops:Array Oper} (hp:ProgOk P c) {id m:Nat} {env':A2} {σ':St} {l1 l2:List Oper} {news:List Nat} (hm:Mv ops=some m) (hz:regFrz ops env σ=(env',σ')) (h1:ops.toList.take m=l1) (h2:ops.toList.drop m=l2) (h3:FO l1=news):DP m id (CG P c n ops news l1 env' σ' (λenv σ=>A6 P n ops l2 env σ (K .normal))) (Tr P n (.region id ops true) env σ K):=λx=>Atk hp hm hz h1 h2 h3 x
structure TrI (p:Prop):Prop where
 t:True
theorem Tk {P:Program} {n:Nat} {e:A2} {s:St} {a:Code} {k:Exit->A2->St->Prop}:TrI (Tr P n a e s k):=⟨trivial⟩
theorem B5 (id m:Nat) {q p:Prop} (k:q) (t:TrI p:=by with_reducible exact Tk) (h:DP m id q p:=by exact Adl Ai Ab Y Y Y Y):p:=h k
theorem BZ {α:Prop} {q p:Prop} (c:α) (k:q) (h:α->q->p:=by intro c x;(with_reducible refine Tt ?_);exact Ji Ai Y Y Y Y Y Y Y c Y Y x):p:=h c k
theorem Mo {α:Prop} {q p:Prop} (c:α) (k:q) (h:α->q->p:=by intro c x;(with_reducible refine WR ?_);exact Jm Y Y Y Y Y c Y Y x):p:=h c k
def RP (i w:List (Nat×Nat)) (a q p:Prop):Prop:=a->q->p
theorem Any {P:Program} {c:Conf} {n:Nat} {ops:Array Oper} {aD:List Oper} {env:A2} {σ:St} {o:Oper} {k:A2->St->Prop} (aY:ProgOk P c) {ι ω:List (Nat×Nat)} {cl:Call} {f:Nat} {az az0:List AV} {e e2:A2} {σ0 σ2 s:St} {r x:AV} (hg:o.guard=none) (ho:o.op=.call cl) (hc:DG c env cl=some (f,az)) (ha:Gq (Go.Am.look ι) az=az0) (n5:De ι σ ι=σ0) (hR:Ze ι ω σ σ2=true) (hx:Dn (Go.Am.look ω) r=x) (he:T3 (G3 ι σ) env=e) (hs:Ll ω σ2++KD ι σ σ=s) (hp:BM n o.dst x e=some e2):RP ι ω (Ct P f az0 σ0 r σ2) (A6 P n ops aD e2 s k) (A6 P n ops (o::aD) env σ k):=λiF h=>Ew aY ι ω hg ho hc ha n5 iF hR hx he hs hp h
structure OpI (p:Prop):Prop where
 t:True
theorem Pf {P:Program} {n:Nat} {ops:Array Oper} {l:List Oper} {e:A2} {s:St} {k:A2->St->Prop}:OpI (A6 P n ops l e s k):=⟨trivial⟩
theorem BT (i w:List (Nat×Nat)) {α:Prop} {q p:Prop} (c:α) (k:q) (t:OpI p:=by with_reducible exact Pf) (h:RP i w α q p:=by exact Any Ai Y Y Y Y Y Y Y Y Y Y):p:=h c k
theorem Ab0 {α:Prop} {q p:Prop} (k:q) (h:α->q->p:=by intro c x;(with_reducible refine Tt ?_);exact Ji Ai Y Y Y Y Y Y Y c Y Y x) (c:α):p:=h c k
theorem Anx {α:Prop} {q p:Prop} (k:q) (h:α->q->p:=by intro c x;(with_reducible refine WR ?_);exact Jm Y Y Y Y Y c Y Y x) (c:α):p:=h c k
theorem Ahc (i w:List (Nat×Nat)) {α:Prop} {q p:Prop} (k:q) (t:OpI p:=by with_reducible exact Pf) (h:RP i w α q p:=by exact Any Ai Y Y Y Y Y Y Y Y Y Y) (c:α):p:=h c k
def WP (id m:Nat) (sl:List (Nat×Nat)) (ms:List Nat) (q p:Prop):Prop:=q->p
theorem Apy {P:Program} {c:Conf} {n m:Nat} {ops:Array Oper} (hp:ProgOk P c) {sl:List (Nat×Nat)} {id:Nat} {env env':A2} {σ σ':St} {K:Exit->A2->St->Prop} {l1 l2:List Oper} {nw:List Nat} {ms:List Nat} (hm:Mv ops=some m) (hz:regFrz ops env σ=(env',σ')) (h1:ops.toList.take m=l1) (h2:ops.toList.drop m=l2) (h3:FO l1=nw) (h4:HG ops.toList []=ms) (kL:Ku ms nw sl l1 0 l1=true):WP id m sl ms (EJ P c n ops nw (λi=>Wn ms i sl) sl 0 l1 env' σ' (λe s=>A6 P n ops l2 e s (K .normal))) (Tr P n (.region id ops true) env σ K):=λx=>Ati hp sl hm hz h1 h2 h3 h4 kL x
structure RgJ (id:Nat) (p:Prop):Prop where
 t:True
theorem Wo {P:Program} {n id:Nat} {ops:Array Oper} {d:Bool} {e:A2} {s:St} {k:Exit->A2->St->Prop}:RgJ id (Tr P n (.region id ops d) e s k):=⟨trivial⟩
theorem D4 (id m:Nat) (sl:List (Nat×Nat)) (ms:List Nat) {q p:Prop} (k:q) (t:RgJ id p:=by with_reducible exact Wo) (h:WP id m sl ms q p:=by exact Apy Ai Ab Y Y Y Y Ab Ab):p:=h k
theorem yF {fn:Func} {f:Nat} (hf:Tryz.prog.funcs[f]?=some fn) {code:Code} {az:List AV} {r:AV} (k:Tr Tryz.prog fn.ntmps code (H7 0 az) [] (λex e s=>(ex=.normal\/ex=.ret)/\ ∃r0 s1,OB Rb.te false fn.results.toList e s=some (r0,s1)/\Aq r0 r)) (hb:fn.body=some code:=by exact rfl) (cJ:Nat.ble az.length fn.ntmps=true:=by exact rfl) (hr:r.free=true:=by exact rfl):Ct Tryz.prog f az [] r []:=Ra Ai hf hb false cJ hr k
theorem yG {fn:Func} {f:Nat} (hf:Tryz.prog.funcs[f]?=some fn) {code:Code} {az:List AV} {r:AV} {σ σ':St} (k:Tr Tryz.prog fn.ntmps code (H7 0 az) σ (Asl Rb.te fn.results.toList r σ')) (hb:fn.body=some code:=by exact rfl) (cJ:Nat.ble az.length fn.ntmps=true:=by exact rfl):Ct Tryz.prog f az σ r σ':=Xf Ai hf hb cJ k
structure RgI (id:Nat) (p:Prop):Prop where
 t:True
theorem Xa {P:Program} {n id:Nat} {ops:Array Oper} {d:Bool} {e:A2} {s:St} {k:Exit->A2->St->Prop}:RgI id (Tr P n (.region id ops d) e s k):=⟨trivial⟩
theorem BA (id m:Nat) {q p:Prop} (k:q) (t:RgI id p:=by with_reducible exact Xa) (h:DP m id q p:=by exact Adl Ai Ab Y Y Y Y):p:=h k
