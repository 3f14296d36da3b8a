/- slices.Insert of one api.Open into a row of the call's own, ahead of another. -/
import Derived.Test.YtpdmaenhenfofaaGreatDoorZIn
import Derived.Test.YtpdmaenhenfofaaGreatDoorZDm
set_option linter.unusedVariables false
set_option linter.unusedSimpArgs false
namespace Go.Proofs.YtpdmaenhenfofaaGreatDoor
open Go.Am
attribute [local irreducible] Decidable.decide
set_option maxRecDepth 100000
set_option maxHeartbeats 1000000
def Kc {α:Type} (l:List α) (i:Nat) (x:α):List α:=l.take i++x::l.drop i
theorem Aa2 {α:Type} (es:List (List α)) (i:Nat) (x:List α) (h: ∀e∈es,e.length=3) (hx:x.length=3) (hi:i≤es.length):(Kc es i x).flatten.length=(es.length+1)*3∧ ∀k,(Kc es i x).flatten[k]?=if k<i*3 then es.flatten[k]? else if k<(i+1)*3 then x[k-i*3]? else es.flatten[k-3]?:=by
 have hF:=Cb 3 es h
 have e1:(Kc es i x).flatten=es.flatten.take (i*3)++(x++es.flatten.drop (i*3)):=by
  simp only[Kc,List.flatten_append,List.flatten_cons]
  rw[M6 3 es i h,M7 3 es i h]
 have htl:(es.flatten.take (i*3)).length=i*3:=by rw[List.length_take,hF];omega
 rw[e1]
 refine⟨by rw[List.length_append,List.length_append,htl,hx,List.length_drop,hF];omega,fun k=>?_⟩
 split
 ·rename_i h1
  rw[List.getElem?_append_left O,List.getElem?_take,if_pos h1]
 ·rename_i h1
  rw[List.getElem?_append_right O,htl]
  split
  ·rw[List.getElem?_append_left O]
  ·rw[List.getElem?_append_right O,hx,List.getElem?_drop]
   congr 1;omega
theorem Aa5 {α:Type} {es:List (List α)} {i:Nat} {x:List α} (h: ∀e∈es,e.length=3) (hx:x.length=3): ∀e∈Kc es i x,e.length=3:=fun e he=>by
 rcases List.mem_append.1 he with he|he
 ·exact h e (List.mem_of_mem_take he)
 ·rcases List.mem_cons.1 he with rfl|he
  ·exact hx
  ·exact h e (List.mem_of_mem_drop he)
theorem Y2 (es:List (List T)) (i:Nat) (x:List T) (hi:i<es.length) (hlim:es.length≤1000000):
  Ct Tryz.prog 127 [.row 1 3 0 es.length,.t (.int .i64 i),.row 3 3 0 1] [(1,.grow 3 es),(3,.grow 3 [x])] (.row 1 3 0 (es.length+1)) [(1,.grow 3 (Kc es i x)),(3,.grow 3 [x])]:=by
 refine⟨⟨_,Tryz.func127,J⟩,fun vs w g hr hinv=>?_⟩
 obtain⟨hlen,hrel⟩:=hr
 match vs,hlen with
 |[v1,v2,v3],_=>
  have r1:=hrel 0 v1 _ J J
  have e2:=Df (hrel 1 v2 _ J J)
  have r3:=hrel 2 v3 _ J J
  subst e2
  generalize hn:es.length=n at r1 hi
  cases r1 with
  |rowNil=>omega
  |row _ _ _ _ blk o cap e m h hs ho hlc hm=>
  cases r3 with
  |row _ _ _ _ vblk vo vcap ve vm vh vhs vho vhlc vhm=>
   obtain⟨hsz,hor⟩:=hinv.ok 1 _ J
   rcases hor with⟨h1,_⟩|⟨blk',u,e',k1,k2,k3,k4,k5⟩
   ·rw[h1]at h;cases h
   obtain⟨vsz,vor⟩:=hinv.ok 3 _ J
   rcases vor with⟨h1,_⟩|⟨vblk',vu,ve',j1,j2,j3,j4,j5⟩
   ·rw[h1]at vh;cases vh
   rw[k1]at h;cases h
   rw[j1]at vh;cases vh
   simp only[World.shape?,k3,Option.some.injEq,Prod.mk.injEq]at hs
   obtain⟨rfl,rfl⟩:=hs
   simp only[World.shape?,j3,Option.some.injEq,Prod.mk.injEq]at vhs
   obtain⟨rfl,rfl⟩:=vhs
   have ho':o=0:=by rcases ho with h|h<;>omega
   subst ho'
   have hvo':vo=0:=by rcases vho with h|h<;>omega
   subst hvo'
   have hxl:x.length=3:=vsz x Z
   have hne:vblk≠blk:=fun e=>by
    subst e
    have:=hinv.inj _ _ _ k1 j1
    omega
   have hcell: ∀k,w.cell? ⟨blk,k,none⟩=u[k]?:=fun k=>by simp[World.cell?,k3]
   have hfz: ∀k,w.frozen? ⟨blk,k,none⟩=false:=fun k=>by simp[World.frozen?,k3]
   have vcell: ∀k,w.cell? ⟨vblk,k,none⟩=vu[k]?:=fun k=>by simp[World.cell?,j3]
   have vfz: ∀k,w.frozen? ⟨vblk,k,none⟩=false:=fun k=>by simp[World.frozen?,j3]
   have hFl:=Cb 3 es hsz
   rw[hn]at hFl
   have hxf:[x].flatten=x:=by simp
   rw[hxf]at j4 j5
   have hone: ∀k (hk:k<n*3),∃v y,u[k]?=some v∧es.flatten[k]?=some y∧CG y=true∧RelT w g.M v y:=fun k hk=>by
    have h1:k<u.size:=by omega
    have h2:k<es.flatten.length:=by omega
    exact⟨u[k],es.flatten[k],by simp[h1],by simp[h2],k5 k _ _ (by simp[h1]) (by simp[h2])⟩
   have vone: ∀k (hk:k<3),∃v y,vu[k]?=some v∧x[k]?=some y∧CG y=true∧RelT w g.M v y:=fun k hk=>by
    have h1:k<vu.size:=by omega
    have h2:k<x.length:=by omega
    exact⟨vu[k],x[k],by simp[h1],by simp[h2],j5 k _ _ (by simp[h1]) (by simp[h2])⟩
   obtain⟨cs,hcl,hcg⟩: ∃cs:List Value,cs.length=n*3∧ ∀k,k<n*3→cs[k]?=u[k]?:=⟨u.toList.take (n*3),by rw[List.length_take,Array.length_toList];omega,fun k hk=>by rw[List.getElem?_take,if_pos hk,Array.getElem?_toList]⟩
   obtain⟨us,hul,hug⟩: ∃us:List Value,us.length=3∧ ∀k,k<3→us[k]?=vu[k]?:=⟨vu.toList.take 3,by rw[List.length_take,Array.length_toList];omega,fun k hk=>by rw[List.getElem?_take,if_pos hk,Array.getElem?_toList]⟩
   have hlt: ∀{l:List Value} {j:Nat} {v:Value},l[j]?=some v→j<l.length:=fun h=>(List.getElem?_eq_some_iff.1 h).1
   have hcs: ∀j v,cs[j]?=some v→w.cell? ⟨blk,0+j,none⟩=some v:=fun j v hv=>by rw[Nat.zero_add,hcell,←hcg j (by rw[←hcl];exact hlt hv)];exact hv
   have hvs: ∀j v,us[j]?=some v→w.cell? ⟨vblk,0+j,none⟩=some v:=fun j v hv=>by rw[Nat.zero_add,vcell,←hug j (by rw[←hul];exact hlt hv)];exact hv
   have h1c: ∀v∈cs,v.oneCell'=true:=fun v hv=>by
    obtain⟨j,hj⟩:=List.getElem?_of_mem hv
    have hl:=hlt hj
    rw[hcl]at hl
    rw[hcg j hl]at hj
    obtain⟨v',y,q1,_,q3,q4⟩:=hone j hl
    rw[q1]at hj;cases hj
    exact(Hx q4 q3).1
   have h1v: ∀v∈us,v.oneCell'=true:=fun v hv=>by
    obtain⟨j,hj⟩:=List.getElem?_of_mem hv
    have hl:=hlt hj
    rw[hul]at hl
    rw[hug j hl]at hj
    obtain⟨v',y,q1,_,q3,q4⟩:=vone j hl
    rw[q1]at hj;cases hj
    exact(Hx q4 q3).1
   obtain⟨fl1,fl2⟩:=Aa2 es i x hsz hxl O
   rw[hn]at fl1
   have hsz':=Aa5 (i:=i) hsz hxl
   have fin: ∀(w':World) (g':G) (u2:Array Value),(∀v y,RelT w g.M v y→RelT w' g'.M v y)→(∀k,k<(n+1)*3→u2[k]?=if k<i*3 then cs[k]? else if k<(i+1)*3 then us[k-i*3]? else cs[k-3]?)→ ∀(k:Nat) v y,u2[k]?=some v→(Kc es i x).flatten[k]?=some y→CG y=true∧RelT w' g'.M v y:=fun w' g' u2 hmono hval k v y hv hy=>by
    have hk:k<(n+1)*3:=by rw[←fl1];exact(List.getElem?_eq_some_iff.1 hy).1
    rw[hval k hk]at hv
    rw[fl2 k]at hy
    split at hv
    ·rename_i h1
     rw[if_pos h1]at hy
     rw[hcg k O]at hv
     obtain⟨v',y',q1,q2,q3,q4⟩:=hone k O
     rw[q1]at hv;cases hv;rw[q2]at hy;cases hy
     exact⟨q3,hmono _ _ q4⟩
    ·rename_i h1
     rw[if_neg h1]at hy
     split at hv
     ·rename_i h2
      rw[if_pos h2]at hy
      rw[hug (k-i*3) O]at hv
      obtain⟨v',y',q1,q2,q3,q4⟩:=vone (k-i*3) O
      rw[q1]at hv;cases hv;rw[q2]at hy;cases hy
      exact⟨q3,hmono _ _ q4⟩
     ·rename_i h2
      rw[if_neg h2]at hy
      rw[hcg (k-3) O]at hv
      obtain⟨v',y',q1,q2,q3,q4⟩:=hone (k-3) O
      rw[q1]at hv;cases hv;rw[q2]at hy;cases hy
      exact⟨q3,hmono _ _ q4⟩
   have hbx: ∀b,b % 2=1→g.bx b→False:=fun b hb hx=>by have:=(hinv.bx b hx).2;obtain⟨cs',hc'⟩:=this;simp only[Go.Am.A3]at hc';split at hc'<;>(try cases hc');split at hc'<;>cases hc'
   by_cases hroom:n+1≤cap
   ·
    have hcapm:cap*3≤u.size:=by omega
    ·refine(Y3 blk 0 n cap i vblk 0 vcap cs us w hi hroom O hne hcl hul hcs (fun j hj=>by rw[Nat.zero_add,hcell];simp;omega) (fun j _=>hfz _) hvs h1c h1v ve' e' vu.size u.size (by simp[World.shape?,j3]) (by simp[World.shape?,k3]) O (vfz _) (by simp[World.frozen?,j3])).mono ?_
     rintro ev w' ⟨rfl,rfl⟩
     obtain⟨u1,a1,a2⟩:=Dl blk (cs.drop (i*3)) (0+(i+1)*3) w.drew u k3
     obtain⟨u2,b1,b2⟩:=Dl blk us (0+i*3) (w.drew.setCells blk (0+(i+1)*3) (cs.drop (i*3))) u1 a1
     have hsets:Sets w ((w.drew.setCells blk (0+(i+1)*3) (cs.drop (i*3))).setCells blk (0+i*3) us) blk u2 e':=⟨by rw[Dk,Dk];rfl,fun c hc=>by rw[CS hc,CS hc];rfl,b1,by rw[DW,DW];rfl,by rw[D9,D9];rfl⟩
     have hdl:(cs.drop (i*3)).length=(n-i)*3:=by rw[List.length_drop,hcl];omega
     have hval: ∀k,k<(n+1)*3→u2[k]?=if k<i*3 then cs[k]? else if k<(i+1)*3 then us[k-i*3]? else cs[k-3]?:=fun k hk=>by
      have hc2:((w.drew.setCells blk (0+(i+1)*3) (cs.drop (i*3))).setCells blk (0+i*3) us).cell? ⟨blk,k,none⟩=u2[k]?:=by simp only[World.cell?,b1];rfl
      have hsome: ∀j,j<u.size→(w.drew.cell? ⟨blk,j,none⟩).isSome=true:=fun j hj=>by rw[show w.drew.cell? ⟨blk,j,none⟩=w.cell? ⟨blk,j,none⟩from rfl,hcell];simp[hj]
      rw[←hc2]
      split
      ·rename_i hki
       rw[World.cell?_setCells_out _ _ _ _ _ (fun _ _=>Or.inl (by show k<_;omega)),World.cell?_setCells_out _ _ _ _ _ (fun _ _=>Or.inl (by show k<_;omega))]
       rw[hcg k O];exact hcell k
      ·rename_i hki
       split
       ·rename_i hk2
        have:=World.cell?_setCells_in blk us (0+i*3) (w.drew.setCells blk (0+(i+1)*3) (cs.drop (i*3))) (fun j hj=>isSome_setCells _ _ _ _ (fun t ht=>hsome _ (by rw[hdl]at ht;omega)) _ (hsome _ (by rw[hul]at hj;omega))) (k-i*3) (by rw[hul];omega)
        rw[show 0+i*3+(k-i*3)=k by omega]at this
        rw[this,←List.getElem?_eq_getElem]
       ·rename_i hk2
        rw[World.cell?_setCells_out _ _ _ _ _ (fun _ _=>Or.inr (by show _≤k;rw[hul];omega))]
        have:=World.cell?_setCells_in blk (cs.drop (i*3)) (0+(i+1)*3) w.drew (fun j hj=>hsome _ (by rw[hdl]at hj;omega)) (k-(i+1)*3) (by rw[hdl];omega)
        rw[show 0+(i+1)*3+(k-(i+1)*3)=k by omega]at this
        rw[this,←List.getElem?_eq_getElem,List.getElem?_drop]
        congr 1;omega
     obtain⟨q1,q2,q3⟩:=Lx hinv (B:=.grow 3 (Kc es i x)) k1 k3 (by rw[b2,a2]) hsets (fun⟨cs,hcs⟩=>by cases hcs) (fun hmono=>⟨hsz',.inr ⟨blk,u2,e',k1,k2,b1,by rw[fl1,b2,a2];omega,fin _ g u2 (fun v y hvy=>A8 (hmono _ _ (.t _ _ hvy))) hval⟩⟩)
     refine⟨_,g,J,q1,?_,q2⟩
     refine .row 1 3 0 _ blk 0 cap e' u2.size k1 (by simp only[World.shape?,b1]) (.inl Z) O (by rw[b2,a2];omega)
   ·have hcn:cap=n:=by omega
    subst hcn
    refine(Aa1 blk 0 cap i vblk 0 vcap cs us w hi O hcl hul hcs hvs h1c h1v).mono ?_
    rintro ev w' ⟨rfl,rfl⟩
    obtain⟨p1,p2,_⟩:=Aau hinv 1 (hbx 1 J)
    generalize hG:grownCap w (cap+1) cap 105=GC
    have hGn:cap+1≤GC:=by rw[←hG];exact grownCap_ge w _ _ _
    generalize hR:(cs.take (i*3)).toArray++Builtin.zeroCells #[.int .i64 0,.int .i64 0,.slice none 0 0] (cap+1-i)++Builtin.zeroCells #[.int .i64 0,.int .i64 0,.slice none 0 0] (GC-(cap+1))=ROW
    have hRs:ROW.size=GC*3:=by
     rw[←hR]
     simp[Builtin.zeroCells,hcl]
     omega
    have hdl:(cs.drop (i*3)).length=(cap-i)*3:=by rw[List.length_drop,hcl];omega
    have k0:(w.alloc (.cells ROW 105)).heap[w.heap.size]?=some (.cells ROW 105 (0,0)):=heap_alloc_new w _
    obtain⟨u1,a1,a2⟩:=Dl w.heap.size us (i*3) (w.alloc (.cells ROW 105)).drew ROW k0
    obtain⟨u2,b1,b2⟩:=Dl w.heap.size (cs.drop (i*3)) ((i+1)*3) ((w.alloc (.cells ROW 105)).drew.setCells w.heap.size (i*3) us).drew u1 a1
    have hmore:More w ((((w.alloc (.cells ROW 105)).drew.setCells w.heap.size (i*3) us).drew).setCells w.heap.size ((i+1)*3) (cs.drop (i*3))) (.cells u2 105 (0,0)):=⟨by rw[Dk];show((w.alloc (.cells ROW 105)).drew.setCells w.heap.size (i*3) us).heap.size=_;rw[Dk];exact(More.alloc w _).size,fun c hc=>by rw[CS O];show((w.alloc (.cells ROW 105)).drew.setCells w.heap.size (i*3) us).heap[c]?=_;rw[CS O];exact(More.alloc w _).old c hc,b1,⟨by rw[DW];show((w.alloc (.cells ROW 105)).drew.setCells w.heap.size (i*3) us).os=_;rw[DW];rfl,by rw[D9];show((w.alloc (.cells ROW 105)).drew.setCells w.heap.size (i*3) us).output=_;rw[D9];rfl⟩⟩
    have hval: ∀k,k<(cap+1)*3→u2[k]?=if k<i*3 then cs[k]? else if k<(i+1)*3 then us[k-i*3]? else cs[k-3]?:=fun k hk=>by
     have hc2:((((w.alloc (.cells ROW 105)).drew.setCells w.heap.size (i*3) us).drew).setCells w.heap.size ((i+1)*3) (cs.drop (i*3))).cell? ⟨w.heap.size,k,none⟩=u2[k]?:=by simp only[World.cell?,b1];rfl
     have h0: ∀j,(w.alloc (.cells ROW 105)).drew.cell? ⟨w.heap.size,j,none⟩=ROW[j]?:=fun j=>by
      show(w.alloc (.cells ROW 105)).cell? ⟨w.heap.size,j,none⟩=_
      simp only[World.cell?,k0];rfl
     have hsome: ∀j,j<GC*3→((w.alloc (.cells ROW 105)).drew.cell? ⟨w.heap.size,j,none⟩).isSome=true:=fun j hj=>by rw[h0,Array.getElem?_eq_getElem O];rfl
     have hsome1: ∀j,j<GC*3→(((w.alloc (.cells ROW 105)).drew.setCells w.heap.size (i*3) us).drew.cell? ⟨w.heap.size,j,none⟩).isSome=true:=fun j hj=>isSome_setCells _ _ _ _ (fun t ht=>hsome _ (by rw[hul]at ht;omega)) _ (hsome _ hj)
     rw[←hc2]
     split
     ·rename_i hki
      rw[World.cell?_setCells_out _ _ _ _ _ (fun _ _=>Or.inl (by show k<_;omega))]
      show((w.alloc (.cells ROW 105)).drew.setCells w.heap.size (i*3) us).cell? _=_
      rw[World.cell?_setCells_out _ _ _ _ _ (fun _ _=>Or.inl (by show k<_;omega)),h0,←hR]
      have:k<(cs.take (i*3)).toArray.size:=by simp[hcl];omega
      rw[Array.append_assoc,Array.getElem?_append_left this,List.getElem?_toArray,List.getElem?_take,if_pos hki]
     ·rename_i hki
      split
      ·rename_i hk2
       rw[World.cell?_setCells_out _ _ _ _ _ (fun _ _=>Or.inl (by show k<_;omega))]
       show((w.alloc (.cells ROW 105)).drew.setCells w.heap.size (i*3) us).cell? _=_
       have:=World.cell?_setCells_in w.heap.size us (i*3) (w.alloc (.cells ROW 105)).drew (fun j hj=>hsome _ (by rw[hul]at hj;omega)) (k-i*3) (by rw[hul];omega)
       rw[show i*3+(k-i*3)=k by omega]at this
       rw[this,←List.getElem?_eq_getElem]
      ·rename_i hk2
       have:=World.cell?_setCells_in w.heap.size (cs.drop (i*3)) ((i+1)*3) ((w.alloc (.cells ROW 105)).drew.setCells w.heap.size (i*3) us).drew (fun j hj=>hsome1 _ (by rw[hdl]at hj;omega)) (k-(i+1)*3) (by rw[hdl];omega)
       rw[show(i+1)*3+(k-(i+1)*3)=k by omega]at this
       rw[this,←List.getElem?_eq_getElem,List.getElem?_drop]
       congr 1;omega
    obtain⟨q1,q2,q3⟩:=Ly p2 (lab:=1) J hmore (B:=.grow 3 (Kc es i x)) (fun hmono=>⟨hsz',.inr ⟨w.heap.size,u2,105,by simp[G.with],.inr J,b1,by rw[fl1,b2,a2,hRs];omega,fin _ _ u2 (fun v y hvy=>A8 (hmono _ _ (.t _ _ hvy))) hval⟩⟩)
    refine⟨_,_,J,p1.trans q1,?_,q2⟩
    refine .row 1 3 0 _ w.heap.size 0 GC 105 u2.size (by simp[G.with]) (by simp only[World.shape?,b1]) (.inl Z) O (by rw[b2,a2,hRs];omega)
end Go.Proofs.YtpdmaenhenfofaaGreatDoor
