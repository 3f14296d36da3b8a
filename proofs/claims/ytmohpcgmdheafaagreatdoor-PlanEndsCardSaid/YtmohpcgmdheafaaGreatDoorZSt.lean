/- Steps of walks, told once: which rule a step takes is found by the tactic that stands as the last argument. No condition. -/
import Derived.Test.YtmohpcgmdheafaaGreatDoorZT1
import Derived.Test.YtmohpcgmdheafaaGreatDoorZM12
set_option linter.unusedVariables false
set_option linter.unusedSimpArgs false
set_option maxRecDepth 100000
set_option maxHeartbeats 8000000
namespace Go.Proofs.YtmohpcgmdheafaaGreatDoor
open Go.Am
abbrev A17:=@Ct Tryz.prog
attribute [local irreducible] Decidable.decide
structure Br (q:Prop):Prop where
 h:q
structure BrI (p:Prop):Prop where
 t:True
theorem brI {q:Prop}:BrI (Br q):=⟨trivial⟩
theorem prB {p:Prop} (g:BrI p:=by with_reducible exact brI) (hF:False:=by first|with_reducible exact h.elim|with_reducible exact nT h|with_reducible exact h.elim (fun x=>x)|(with_reducible contradiction)|omega|(simp only[List.length_map]at h;omega)):p:=hF.elim
theorem goO {P:Program} {n:Nat} {ops:Array Oper} {l:List Oper} {e:Env} {s:St} {k:Env->St->Prop} (h:A2 P n ops l e s k):A2 P n ops l e s k:=h
theorem goN {P:Program} {n:Nat} {ops:Array Oper} {o:Oper} {l:List Oper} {e:Env} {s:St} {k:Env->St->Prop} (hg:o.guard=none) (h:A2 P n ops (o::l) e s k):A2 P n ops (o::l) e s k:=h
theorem goM {P:Program} {c:Conf} {n:Nat} {ops:Array Oper} {o:Oper} {l:List Oper} {ns:List Nat} {e:Env} {s:St} {k:Env->St->Prop} (hg:o.guard=none) (h:hSK P c n ops ns (o::l) e s k):hSK P c n ops ns (o::l) e s k:=h
theorem goT {P:Program} {n:Nat} {e:Env} {s:St} {a:Code} {k:Exit->Env->St->Prop} (h:Tr P n a e s k):Tr P n a e s k:=h
theorem goS {P:Program} {c:Conf} {n:Nat} {ops:Array Oper} {l:List Oper} {ns:List Nat} {e:Env} {s:St} {k:Env->St->Prop} (h:hSK P c n ops ns l e s k):hSK P c n ops ns l e s k:=h
theorem goZ {P:Program} {c:Conf} {n:Nat} {ops:Array Oper} {l:List Oper} {ns:List Nat} {ex:Nat->List Nat} {sl:List (Nat×Nat)} {i:Nat} {e:Env} {s:St} {k:Env->St->Prop} (h:hSW P c n ops ns ex sl i l e s k):hSW P c n ops ns ex sl i l e s k:=h
theorem stA {q p:Prop} (k:q) (h:q->p:=by
 intro x
 first
  |((with_reducible refine goO ?_);first
    |((refine goN Y ?_);first
     |exact Akv Ag Y Y Y Y Y x
     |exact E6 Ag Y Y Y x
     |exact G5 Ag Y Y Y Y Y Y Y (CL Ad) Y x
     |exact JJ Ag Y Y Y Y Y Y Y Ad (CL Ad) Y x
     |exact Af1 Ag Y Y Y Y Y Y Y Y Y Y Y Y Y (by simp[Bq];omega) x
     |exact VM Ag Y Y Y Y Y Y Y Y Y Y Y Y Y Y (by simp[Bq];omega) x)
    |exact Ano x
    |exact Afz Y Y Y Y Y x)
  |((with_reducible refine goT ?_);first|exact L4 Ag Y Y x|exact Yp x|exact Yq x)
  |((with_reducible refine goS ?_);first
    |((refine goM Y ?_);first
     |exact Arz Y Y Y Y x
     |exact Alb Y Y Y Y Y Y Y (CL Ad) Y x
     |exact Agq Y Y Y Y Y Y Y Ad (CL Ad) Y x)
    |exact Ayb x
    |exact Agr Y Y Y Y Y x)
  |with_reducible exact Br.mk x
  |((with_reducible refine goZ ?_);first|exact Akq Y Y Y Y Y Y Y Y Y Y Y x|exact Ats Y Y x|exact Att x)):p:=h k
theorem stB {q p:Prop} (k:q) (h:q->p:=by
 intro x
 first
  |((with_reducible refine goT ?_);first|exact Ik x|exact Ms x|exact stA x)
  |exact stA x):p:=h k
theorem stC {q p:Prop} (k:q) (h:q->p:=by
 intro x
 first
  |((with_reducible refine goT ?_);first|exact Ik x|exact Ms x|exact Ca x|exact stA x)
  |exact stA x):p:=h k
theorem stU {c d q r p:Prop} (k:c->Br q) (l:d->Br r) (h:(c->q)->(d->r)->p:=by
 intro a b
 first
  |((with_reducible refine goO ?_);first|exact Atv Y Y Y Y Y (ht:=a) (hf:=b)|exact Atw Y Y Y Y Y (ht:=a) (hf:=b))
  |((with_reducible refine goT ?_);exact Akx Y (ht:=a) (hf:=b))
  |((with_reducible refine goS ?_);first|exact Ayc Y Y Y Y Y (ht:=a) (hf:=b)|exact Ayd Y Y Y Y Y (ht:=a) (hf:=b))):p:=h (fun x=>(k x).h) (fun x=>(l x).h)
theorem stN {c q:Bool->Prop} {p:Prop} (k: ∀b,c b->q b) (h:(∀b,c b->q b)->p:=by
 intro x;(with_reducible refine goO ?_);exact Arq Ag Y Y Y Y Y (fun _=>rfl) x):p:=h k
def DP (m id:Nat) (q p:Prop):Prop:=q->p
theorem Alj {P:Program} {c:Conf} {n:Nat} {env:Env} {σ:St} {K:Exit->Env->St->Prop} {ops:Array Oper} (hp:ProgOk P c) {id m:Nat} {env':Env} {σ':St} {l1 l2:List Oper} {news:List Nat} (hm:ID ops=some m) (hz:regFrz ops env σ=(env',σ')) (h1:ops.toList.take m=l1) (h2:ops.toList.drop m=l2) (h3:D1 l1=news):DP m id (hSK P c n ops news l1 env' σ' (fun env σ=>A2 P n ops l2 env σ (K .normal))) (Tr P n (.region id ops true) env σ K):=fun x=>Arp hp hm hz h1 h2 h3 x
structure TrI (p:Prop):Prop where
 t:True
theorem trI {P:Program} {n:Nat} {e:Env} {s:St} {a:Code} {k:Exit->Env->St->Prop}:TrI (Tr P n a e s k):=⟨trivial⟩
theorem stD (id m:Nat) {q p:Prop} (k:q) (t:TrI p:=by with_reducible exact trI) (h:DP m id q p:=by exact Alj Ag Ab Y Y Y Y):p:=h k
theorem stL {α:Prop} {q p:Prop} (k:q) (h:α->q->p:=by intro c x;(with_reducible refine goO ?_);exact Qt Ag Y Y Y Y Y Y Y c Y Y x) (c:α):p:=h c k
theorem stM {α:Prop} {q p:Prop} (k:q) (h:α->q->p:=by intro c x;(with_reducible refine goS ?_);exact Ags Y Y Y Y Y c Y Y x) (c:α):p:=h c k
end Go.Proofs.YtmohpcgmdheafaaGreatDoor
