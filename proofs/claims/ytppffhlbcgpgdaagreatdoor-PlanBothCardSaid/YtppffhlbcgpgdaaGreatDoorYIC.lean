/- slices.Insert of one api.Open into a row of the call's own, ahead of another. -/
import Derived.Test.YtppffhlbcgpgdaaGreatDoorYIP
import Derived.Test.YtppffhlbcgpgdaaGreatDoorYJ5
set_option linter.all false
set_option maxRecDepth 100000
set_option maxHeartbeats 8000000
namespace Go.Proofs.YtppffhlbcgpgdaaGreatDoor
open Go.Am
attribute [local irreducible] Decidable.decide
def I7 {α:Type} (l:List α) (i:Nat) (x:α):List α:=l.take i++x::l.drop i
theorem Yw {α:Type} (es:List (List α)) (i:Nat) (x:List α) (h: ∀e∈es,e.length=3) (hx:x.length=3) (hi:i<=es.length):(I7 es i x).flatten.length=(es.length+1)*3/\ ∀k,(I7 es i x).flatten[k]?=if k<i*3 then es.flatten[k]? else if k<(i+1)*3 then x[k-i*3]? else es.flatten[k-3]?:=by
 have hF:=Cx 3 es h
 have e1:(I7 es i x).flatten=es.flatten.take (i*3)++(x++es.flatten.drop (i*3)):=by
  simp only[I7,A48,A5g];rw[OX 3 es i h,OY 3 es i h]
 have dY:(es.flatten.take (i*3)).length=i*3:=by rw[A2i,hF];omega
 rw[e1];refine⟨by rw[Xp,Xp,dY,hx,A43,hF];omega,λk=>?_⟩;split
 ·rename_i h1;rw[Abh Aa,Aoy,WU h1]
 ·rename_i h1;rw[Aez Aa,dY];split
  ·rw[Abh Aa]
  ·rw[Aez Aa,hx,A4z];congr 1;omega
theorem Yx {α:Type} {es:List (List α)} {i:Nat} {x:List α} (h: ∀e∈es,e.length=3) (hx:x.length=3): ∀e∈I7 es i x,e.length=3:=λe he=>by
 rcases A25.1 he with he|he
 ·exact h e (A3c he)
 ·rcases Als.1 he with rfl|he
  ·exact hx
  ·exact h e (A6k he)
theorem Xo {S E:TypeId} {fO fI:Nat} {z:Array Value} (hK:Xm S E fO fI z) (es:List (List T)) (i:Nat) (x:List T) (hi:i<es.length) (bW:es.length<=1000000):
  A3z fI [.row 1 3 0 es.length,.t (.int .i64 i),.row 3 3 0 1] [(1,.grow 3 es),(3,.grow 3 [x])] (.row 1 3 0 (es.length+1)) [(1,.grow 3 (I7 es i x)),(3,.grow 3 [x])]:=by
 refine⟨by rcases hK with⟨rfl,rfl,rfl,rfl,rfl⟩|⟨rfl,rfl,rfl,rfl,rfl⟩;exact⟨_,Tryz.func230,Y⟩;exact⟨_,Tryz.func285,Y⟩,λvs w g hr dL=>?_⟩;obtain⟨aO,aJ⟩:=hr
 match vs,aO with
 |[v1,v2,v3],_=>
  have r1:=aJ 0 v1 _ Y Y;have e2:=CC (aJ 1 v2 _ Y Y);have r3:=aJ 2 v3 _ Y Y;subst e2;generalize hn:es.length=n at r1 hi
  cases r1 with
  |rowNil=>omega
  |row _ _ _ _ aA o cap e m h hs ho gC hm=>
  cases r3 with
  |row _ _ _ _ fD vo vcap ve vm vh vhs vho vhlc vhm=>
   obtain⟨aN,jY⟩:=dL.ok 1 _ Y;rcases jY with⟨h1,_⟩|⟨aX,u,e',k1,k2,k3,k4,k5⟩
   ·rw[h1]at h;cases h
   obtain⟨vsz,vor⟩:=dL.ok 3 _ Y;rcases vor with⟨h1,_⟩|⟨vblk',vu,ve',j1,j2,j3,j4,j5⟩
   ·rw[h1]at vh;cases vh
   rw[k1]at h;cases h;rw[j1]at vh;cases vh;simp only[World.shape?,k3,A26,A6p]at hs;obtain⟨rfl,rfl⟩:=hs;simp only[World.shape?,j3,A26,A6p]at vhs;obtain⟨rfl,rfl⟩:=vhs;have dE:o=0:=by rcases ho with h|h<;>omega
   subst dE;have mT:vo=0:=by rcases vho with h|h<;>omega
   subst mT;have oJ:x.length=3:=vsz x Ac
   have aE:fD≠aA:=λe=>by
    subst e;have:=dL.inj _ _ _ k1 j1;omega
   have aL: ∀k,w.cell? ⟨aA,k,none⟩=u[k]?:=λk=>by simp[World.cell?,k3]
   have dV: ∀k,w.frozen? ⟨aA,k,none⟩=false:=λk=>by simp[World.frozen?,k3]
   have vcell: ∀k,w.cell? ⟨fD,k,none⟩=vu[k]?:=λk=>by simp[World.cell?,j3]
   have vfz: ∀k,w.frozen? ⟨fD,k,none⟩=false:=λk=>by simp[World.frozen?,j3]
   have nY:=Cx 3 es aN;rw[hn]at nY;have qY:[x].flatten=x:=Ac;rw[qY]at j4 j5
   have aU: ∀k (hk:k<n*3),∃v y,u[k]?=some v/\es.flatten[k]?=some y/\CV y=true/\RelT w g.M v y:=λk hk=>by
    have h1:k<u.size:=Aa;have h2:k<es.flatten.length:=Aa;exact⟨u[k],es.flatten[k],by simp[h1],by simp[h2],k5 k _ _ (by simp[h1]) (by simp[h2])⟩
   have vone: ∀k (hk:k<3),∃v y,vu[k]?=some v/\x[k]?=some y/\CV y=true/\RelT w g.M v y:=λk hk=>by
    have h1:k<vu.size:=Aa;have h2:k<x.length:=Aa;exact⟨vu[k],x[k],by simp[h1],by simp[h2],j5 k _ _ (by simp[h1]) (by simp[h2])⟩
   obtain⟨cs,bR,kM⟩: ∃cs:List Value,cs.length=n*3/\ ∀k,k<n*3->cs[k]?=u[k]?:=⟨u.toList.take (n*3),by rw[A2i,A53];omega,λk hk=>by rw[Aoy,WU hk,Agx]⟩
   obtain⟨us,f9,mV⟩: ∃us:List Value,us.length=3/\ ∀k,k<3->us[k]?=vu[k]?:=⟨vu.toList.take 3,by rw[A2i,A53];omega,λk hk=>by rw[Aoy,WU hk,Agx]⟩
   have aC: ∀{l:List Value} {j:Nat} {v:Value},l[j]?=some v->j<l.length:=λh=>(ZH.1 h).1;have bZ: ∀j v,cs[j]?=some v->w.cell? ⟨aA,0+j,none⟩=some v:=λj v hv=>by rw[Atj,aL,<-kM j (by rw[<-bR];exact aC hv)];exact hv
   have gT: ∀j v,us[j]?=some v->w.cell? ⟨fD,0+j,none⟩=some v:=λj v hv=>by rw[Atj,vcell,<-mV j (by rw[<-f9];exact aC hv)];exact hv
   have jP: ∀v∈cs,v.oneCell'=true:=λv hv=>by
    obtain⟨j,hj⟩:=A7o hv;have hl:=aC hj;rw[bR]at hl;rw[kM j hl]at hj;obtain⟨v',y,q1,_,q3,q4⟩:=aU j hl;rw[q1]at hj;cases hj;exact(He q4 q3).1
   have jO: ∀v∈us,v.oneCell'=true:=λv hv=>by
    obtain⟨j,hj⟩:=A7o hv;have hl:=aC hj;rw[f9]at hl;rw[mV j hl]at hj;obtain⟨v',y,q1,_,q3,q4⟩:=vone j hl;rw[q1]at hj;cases hj;exact(He q4 q3).1
   obtain⟨fl1,fl2⟩:=Yw es i x aN oJ Aa;rw[hn]at fl1;have dF:=Yx (i:=i) aN oJ
   have fin: ∀(w':World) (g':G) (u2:Array Value),(∀v y,RelT w g.M v y->RelT w' g'.M v y)->(∀k,k<(n+1)*3->u2[k]?=if k<i*3 then cs[k]? else if k<(i+1)*3 then us[k-i*3]? else cs[k-3]?)-> ∀(k:Nat) v y,u2[k]?=some v->(I7 es i x).flatten[k]?=some y->CV y=true/\RelT w' g'.M v y:=λw' g' u2 bQ fG k v y hv hy=>by
    have hk:k<(n+1)*3:=by rw[<-fl1];exact(ZH.1 hy).1
    rw[fG k hk]at hv;rw[fl2 k]at hy;split at hv
    ·rename_i h1;rw[WU h1]at hy;rw[kM k Aa]at hv;obtain⟨v',y',q1,q2,q3,q4⟩:=aU k Aa;rw[q1]at hv;cases hv;rw[q2]at hy;cases hy;exact⟨q3,bQ _ _ q4⟩
    ·rename_i h1;rw[Ug h1]at hy;split at hv
     ·rename_i h2;rw[WU h2]at hy;rw[mV (k-i*3) Aa]at hv;obtain⟨v',y',q1,q2,q3,q4⟩:=vone (k-i*3) Aa;rw[q1]at hv;cases hv;rw[q2]at hy;cases hy;exact⟨q3,bQ _ _ q4⟩
     ·rename_i h2;rw[Ug h2]at hy;rw[kM (k-3) Aa]at hv;obtain⟨v',y',q1,q2,q3,q4⟩:=aU (k-3) Aa;rw[q1]at hv;cases hv;rw[q2]at hy;cases hy;exact⟨q3,bQ _ _ q4⟩
   have gX: ∀b,b % 2=1->g.bx b->False:=λb hb hx=>by have:=(dL.bx b hx).2;obtain⟨cs',e7⟩:=this;simp only[Go.Am.Ap]at e7;split at e7<;>(try cases e7);split at e7<;>cases e7
   by_cases bJ:n+1<=cap
   ·
    have qC:cap*3<=u.size:=Aa
    ·refine(Ag1 hK aA 0 n cap i fD 0 vcap cs us w hi bJ Aa aE bR f9 bZ (λj hj=>by rw[Atj,aL];simp;omega) (λj _=>dV _) gT jP jO ve' e' vu.size u.size (by simp[World.shape?,j3]) (by simp[World.shape?,k3]) Aa (vfz _) (by simp[World.frozen?,j3])).mono ?_;rintro ev w' ⟨rfl,rfl⟩;obtain⟨u1,a1,a2⟩:=Cw aA (cs.drop (i*3)) (0+(i+1)*3) w.drew u k3;obtain⟨u2,b1,b2⟩:=Cw aA us (0+i*3) (w.drew.setCells aA (0+(i+1)*3) (cs.drop (i*3))) u1 a1
     have bU:Sets w ((w.drew.setCells aA (0+(i+1)*3) (cs.drop (i*3))).setCells aA (0+i*3) us) aA u2 e':=⟨by rw[Cv,Cv];rfl,λc hc=>by rw[Cc hc,Cc hc];rfl,b1,by rw[CR,CR];rfl,by rw[CB,CB];rfl⟩
     have gD:(cs.drop (i*3)).length=(n-i)*3:=by rw[A43,bR];omega
     have fG: ∀k,k<(n+1)*3->u2[k]?=if k<i*3 then cs[k]? else if k<(i+1)*3 then us[k-i*3]? else cs[k-3]?:=λk hk=>by
      have iG:((w.drew.setCells aA (0+(i+1)*3) (cs.drop (i*3))).setCells aA (0+i*3) us).cell? ⟨aA,k,none⟩=u2[k]?:=by simp only[World.cell?,b1];rfl
      have cZ: ∀j,j<u.size->(w.drew.cell? ⟨aA,j,none⟩).isSome=true:=λj hj=>by rw[show w.drew.cell? ⟨aA,j,none⟩=w.cell? ⟨aA,j,none⟩from rfl,aL];simp[hj]
      rw[<-iG];split
      ·rename_i fO;rw[World.cell?_setCells_out _ _ _ _ _ (λ_ _=>Or.inl (by show k<_;omega)),World.cell?_setCells_out _ _ _ _ _ (λ_ _=>Or.inl (by show k<_;omega))];rw[kM k Aa];exact aL k
      ·rename_i fO;split
       ·rename_i g9;have:=World.cell?_setCells_in aA us (0+i*3) (w.drew.setCells aA (0+(i+1)*3) (cs.drop (i*3))) (λj hj=>isSome_setCells _ _ _ _ (λt ht=>cZ _ (by rw[gD]at ht;omega)) _ (cZ _ (by rw[f9]at hj;omega))) (k-i*3) (by rw[f9];omega);rw[show 0+i*3+(k-i*3)=k from Aa]at this;rw[this,<-Kv]
       ·rename_i g9;rw[World.cell?_setCells_out _ _ _ _ _ (λ_ _=>Or.inr (by show _<=k;rw[f9];omega))];have:=World.cell?_setCells_in aA (cs.drop (i*3)) (0+(i+1)*3) w.drew (λj hj=>cZ _ (by rw[gD]at hj;omega)) (k-(i+1)*3) (by rw[gD];omega);rw[show 0+(i+1)*3+(k-(i+1)*3)=k from Aa]at this;rw[this,<-Kv,A4z];congr 1;omega
     obtain⟨q1,q2,q3⟩:=Kh dL (B:=.grow 3 (I7 es i x)) k1 k3 (by rw[b2,a2]) bU (λ⟨cs,bZ⟩=>by cases bZ) (λbQ=>⟨dF,.inr ⟨aA,u2,e',k1,k2,b1,by rw[fl1,b2,a2];omega,fin _ g u2 (λv y mS=>Av (bQ _ _ (.t _ _ mS))) fG⟩⟩);refine⟨_,g,Y,q1,?_,q2⟩;refine .row 1 3 0 _ aA 0 cap e' u2.size k1 (by simp only[World.shape?,b1]) (.inl Ac) Aa (by rw[b2,a2];omega)
   ·have dQ:cap=n:=Aa;subst dQ;refine(Alt hK aA 0 cap i fD 0 vcap cs us w hi Aa bR f9 bZ gT jP jO).mono ?_;rintro ev w' ⟨rfl,rfl⟩;obtain⟨p1,p2,_⟩:=Yq dL 1 (gX 1 Y);generalize hG:grownCap w (cap+1) cap E=GC;have tY:cap+1<=GC:=by rw[<-hG];exact A63 w _ _ _
    generalize hR:(cs.take (i*3)).toArray++Builtin.zeroCells z (cap+1-i)++Builtin.zeroCells z (GC-(cap+1))=ROW
    have qE:ROW.size=GC*3:=by
     rw[<-hR];simp[A6l,(Xk hK).2.1,bR];omega
    have gD:(cs.drop (i*3)).length=(cap-i)*3:=by rw[A43,bR];omega
    have k0:(w.alloc (.cells ROW E)).heap[w.heap.size]?=some (.cells ROW E (0,0)):=heap_alloc_new w _;obtain⟨u1,a1,a2⟩:=Cw w.heap.size us (i*3) (w.alloc (.cells ROW E)).drew ROW k0;obtain⟨u2,b1,b2⟩:=Cw w.heap.size (cs.drop (i*3)) ((i+1)*3) ((w.alloc (.cells ROW E)).drew.setCells w.heap.size (i*3) us).drew u1 a1
    have j7:More w ((((w.alloc (.cells ROW E)).drew.setCells w.heap.size (i*3) us).drew).setCells w.heap.size ((i+1)*3) (cs.drop (i*3))) (.cells u2 E (0,0)):=⟨by rw[Cv];show((w.alloc (.cells ROW E)).drew.setCells w.heap.size (i*3) us).heap.size=_;rw[Cv];exact(More.alloc w _).size,λc hc=>by rw[Cc Aa];show((w.alloc (.cells ROW E)).drew.setCells w.heap.size (i*3) us).heap[c]?=_;rw[Cc Aa];exact(More.alloc w _).old c hc,b1,⟨by rw[CR];show((w.alloc (.cells ROW E)).drew.setCells w.heap.size (i*3) us).os=_;rw[CR];rfl,by rw[CB];show((w.alloc (.cells ROW E)).drew.setCells w.heap.size (i*3) us).output=_;rw[CB];rfl⟩⟩
    have fG: ∀k,k<(cap+1)*3->u2[k]?=if k<i*3 then cs[k]? else if k<(i+1)*3 then us[k-i*3]? else cs[k-3]?:=λk hk=>by
     have iG:((((w.alloc (.cells ROW E)).drew.setCells w.heap.size (i*3) us).drew).setCells w.heap.size ((i+1)*3) (cs.drop (i*3))).cell? ⟨w.heap.size,k,none⟩=u2[k]?:=by simp only[World.cell?,b1];rfl
     have h0: ∀j,(w.alloc (.cells ROW E)).drew.cell? ⟨w.heap.size,j,none⟩=ROW[j]?:=λj=>by
      show(w.alloc (.cells ROW E)).cell? ⟨w.heap.size,j,none⟩=_;simp only[World.cell?,k0];rfl
     have cZ: ∀j,j<GC*3->((w.alloc (.cells ROW E)).drew.cell? ⟨w.heap.size,j,none⟩).isSome=true:=λj hj=>by rw[h0,A23 Aa];rfl
     have iJ: ∀j,j<GC*3->(((w.alloc (.cells ROW E)).drew.setCells w.heap.size (i*3) us).drew.cell? ⟨w.heap.size,j,none⟩).isSome=true:=λj hj=>isSome_setCells _ _ _ _ (λt ht=>cZ _ (by rw[f9]at ht;omega)) _ (cZ _ hj);rw[<-iG];split
     ·rename_i fO;rw[World.cell?_setCells_out _ _ _ _ _ (λ_ _=>Or.inl (by show k<_;omega))];show((w.alloc (.cells ROW E)).drew.setCells w.heap.size (i*3) us).cell? _=_;rw[World.cell?_setCells_out _ _ _ _ _ (λ_ _=>Or.inl (by show k<_;omega)),h0,<-hR];have:k<(cs.take (i*3)).toArray.size:=by simp[bR];omega
      rw[Array.append_assoc,A4a this,A7k,Aoy,WU fO]
     ·rename_i fO;split
      ·rename_i g9;rw[World.cell?_setCells_out _ _ _ _ _ (λ_ _=>Or.inl (by show k<_;omega))];show((w.alloc (.cells ROW E)).drew.setCells w.heap.size (i*3) us).cell? _=_;have:=World.cell?_setCells_in w.heap.size us (i*3) (w.alloc (.cells ROW E)).drew (λj hj=>cZ _ (by rw[f9]at hj;omega)) (k-i*3) (by rw[f9];omega);rw[show i*3+(k-i*3)=k from Aa]at this;rw[this,<-Kv]
      ·rename_i g9;have:=World.cell?_setCells_in w.heap.size (cs.drop (i*3)) ((i+1)*3) ((w.alloc (.cells ROW E)).drew.setCells w.heap.size (i*3) us).drew (λj hj=>iJ _ (by rw[gD]at hj;omega)) (k-(i+1)*3) (by rw[gD];omega);rw[show(i+1)*3+(k-(i+1)*3)=k from Aa]at this;rw[this,<-Kv,A4z];congr 1;omega
    obtain⟨q1,q2,q3⟩:=HS p2 (lab:=1) Y j7 (B:=.grow 3 (I7 es i x)) (λbQ=>⟨dF,.inr ⟨w.heap.size,u2,E,by simp[G.with],.inr rfl,b1,by rw[fl1,b2,a2,qE];omega,fin _ _ u2 (λv y mS=>Av (bQ _ _ (.t _ _ mS))) fG⟩⟩);refine⟨_,_,Y,p1.trans q1,?_,q2⟩;refine .row 1 3 0 _ w.heap.size 0 GC E u2.size (by simp[G.with]) (by simp only[World.shape?,b1]) (.inl Ac) Aa (by rw[b2,a2,qE];omega)
theorem Ag0 (es:List (List T)) (i:Nat) (x:List T) (hi:i<es.length) (bW:es.length<=1000000):
  A3z 230 [.row 1 3 0 es.length,.t (.int .i64 i),.row 3 3 0 1] [(1,.grow 3 es),(3,.grow 3 [x])] (.row 1 3 0 (es.length+1)) [(1,.grow 3 (I7 es i x)),(3,.grow 3 [x])]:=Xo (.inl ⟨Y,Y,Y,Y,Y⟩) es i x hi bW
theorem Abj (es:List (List T)) (i:Nat) (x:List T) (hi:i<es.length) (bW:es.length<=1000000):
  A3z 285 [.row 1 3 0 es.length,.t (.int .i64 i),.row 3 3 0 1] [(1,.grow 3 es),(3,.grow 3 [x])] (.row 1 3 0 (es.length+1)) [(1,.grow 3 (I7 es i x)),(3,.grow 3 [x])]:=Xo (.inr ⟨Y,Y,Y,Y,Y⟩) es i x hi bW
