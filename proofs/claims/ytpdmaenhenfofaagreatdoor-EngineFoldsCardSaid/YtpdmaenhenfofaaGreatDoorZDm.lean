/- slices.Delete of one api.Open of a row of the call's own. -/
import Derived.Test.YtpdmaenhenfofaaGreatDoorZDl
import Derived.Test.YtpdmaenhenfofaaGreatDoorZCf
import Derived.Test.YtpdmaenhenfofaaGreatDoorZM6
set_option linter.unusedVariables false
set_option linter.unusedSimpArgs false
namespace Go.Proofs.YtpdmaenhenfofaaGreatDoor
open Go.Am
attribute [local irreducible] Decidable.decide
set_option maxRecDepth 100000
set_option maxHeartbeats 1000000
theorem Dl {e:TypeId} {fz:Nat×Nat} (b:Nat): ∀(us:List Value) (o:Nat) (w:World) (vs:Array Value),w.heap[b]?=some (.cells vs e fz)→ ∃vs':Array Value,(w.setCells b o us).heap[b]?=some (.cells vs' e fz)∧vs'.size=vs.size
 |[],o,w,vs,h=>⟨vs,h,J⟩
 |u::r,o,w,vs,h=>by
  obtain⟨vs',h1,h2⟩:=Dl (e:=e) (fz:=fz) b r (o+1) (w.setCell ⟨b,o,none⟩ u) (vs.setIfInBounds o u) (by simp[World.setCell,Array.getElem?_modify,h])
  exact⟨vs',h1,by rw[h2];simp⟩
theorem Dk (b:Nat): ∀(us:List Value) (o:Nat) (w:World),(w.setCells b o us).heap.size=w.heap.size
 |[],_,_=>rfl
 |u::r,o,w=>by rw[World.setCells,Dk b r];simp[World.setCell]
theorem CS {b c:Nat} (hne:c≠b): ∀(us:List Value) (o:Nat) (w:World),(w.setCells b o us).heap[c]?=w.heap[c]?
 |[],_,_=>rfl
 |u::r,o,w=>by rw[World.setCells,CS hne r];simp[World.setCell,Array.getElem?_modify,Ne.symm hne]
theorem DW (b:Nat): ∀(us:List Value) (o:Nat) (w:World),(w.setCells b o us).os=w.os
 |[],_,_=>rfl
 |u::r,o,w=>by rw[World.setCells,DW b r];rfl
theorem D9 (b:Nat): ∀(us:List Value) (o:Nat) (w:World),(w.setCells b o us).output=w.output
 |[],_,_=>rfl
 |u::r,o,w=>by rw[World.setCells,D9 b r];rfl
theorem M6 {α:Type} (sz:Nat): ∀(es:List (List α)) (i:Nat),(∀e∈es,e.length=sz)→(es.take i).flatten=es.flatten.take (i*sz)
 |[],i,_=>by simp
 |a::r,0,_=>by simp
 |a::r,i+1,h=>by
  have ha:=h a Z
  rw[List.take_succ_cons,List.flatten_cons,List.flatten_cons,M6 sz r i (fun e he=>h e (by simp[he])),show(i+1)*sz=a.length+i*sz by rw[ha,Nat.succ_mul];omega,List.take_length_add_append]
theorem M7 {α:Type} (sz:Nat): ∀(es:List (List α)) (i:Nat),(∀e∈es,e.length=sz)→(es.drop i).flatten=es.flatten.drop (i*sz)
 |[],i,_=>by simp
 |a::r,0,_=>by simp
 |a::r,i+1,h=>by
  have ha:=h a Z
  rw[List.drop_succ_cons,List.flatten_cons,M7 sz r i (fun e he=>h e (by simp[he])),show(i+1)*sz=a.length+i*sz by rw[ha,Nat.succ_mul];omega,List.drop_length_add_append]
theorem R9 (σ:St) (b:Nat) (es:List (List T)) (i:Nat) (hb:Go.Am.look σ b=some (Blk.grow 3 es)) (hi:i<es.length) (hlim:es.length≤1000000):
  Ct Tryz.prog 105 [.row b 3 0 es.length,.t (.int .i64 i),.t (.int .i64 ((i:Int)+1))] σ (.row b 3 0 (es.length-1)) (upd σ b (.grow 3 (es.eraseIdx i))):=by
 refine⟨⟨_,Tryz.func105,J⟩,fun vs w g hr hinv=>?_⟩
 obtain⟨hlen,hrel⟩:=hr
 match vs,hlen with
 |[v1,v2,v3],_=>
  have r1:=hrel 0 v1 _ J J
  have e2:=Df (hrel 1 v2 _ J J)
  have e3:=Df (hrel 2 v3 _ J J)
  subst e2;subst e3
  generalize hn:es.length=n at r1 hi
  cases r1 with
  |rowNil=>omega
  |row _ _ _ _ blk o cap e m h hs ho hlc hm=>
   obtain⟨hsz,hor⟩:=hinv.ok b _ hb
   rcases hor with⟨h1,_⟩|⟨blk',u,e',k1,k2,k3,k4,k5⟩
   ·rw[h1]at h;cases h
   rw[k1]at h;cases h
   simp only[World.shape?,k3,Option.some.injEq,Prod.mk.injEq]at hs
   obtain⟨rfl,rfl⟩:=hs
   have ho':o=0:=by rcases ho with h|h<;>omega
   subst ho'
   have hcell: ∀k,w.cell? ⟨blk,k,none⟩=u[k]?:=fun k=>by simp[World.cell?,k3]
   have hfz: ∀k,w.frozen? ⟨blk,k,none⟩=false:=fun k=>by simp[World.frozen?,k3]
   have hFl:=Cb 3 es hsz
   rw[hn]at hFl
   have hone: ∀k (hk:k<n*3),∃v x,u[k]?=some v∧es.flatten[k]?=some x∧CG x=true∧RelT w g.M v x:=fun k hk=>by
    have h1:k<u.size:=by omega
    have h2:k<es.flatten.length:=by omega
    exact⟨u[k],es.flatten[k],by simp[h1],by simp[h2],k5 k _ _ (by simp[h1]) (by simp[h2])⟩
   have hml:((u.toList.drop ((i+1)*3)).take ((n-(i+1))*3)).length=(n-(i+1))*3:=by
    rw[List.length_take,List.length_drop,Array.length_toList];omega
   have hmg: ∀j,j<(n-(i+1))*3→((u.toList.drop ((i+1)*3)).take ((n-(i+1))*3))[j]?=u[(i+1)*3+j]?:=fun j hj=>by
    rw[List.getElem?_take,if_pos hj,List.getElem?_drop,Array.getElem?_toList]
   generalize hmv:(u.toList.drop ((i+1)*3)).take ((n-(i+1))*3)=moved at hml hmg
   have hjl: ∀j (v:Value),moved[j]?=some v→j<(n-(i+1))*3:=fun j v hv=>by rw[←hml];exact(List.getElem?_eq_some_iff.1 hv).1
   refine(Ab1 blk 0 n cap i moved w hi hlc O hml (fun j v hv=>?_) (fun v hv=>?_) (fun j hj=>?_) (fun j _=>hfz _)).mono ?_
   ·rw[hcell,Nat.zero_add,←hmg j (hjl j v hv)];exact hv
   ·obtain⟨j,hj⟩:=List.getElem?_of_mem hv
    have hjl':=hjl j v hj
    rw[hmg j hjl']at hj
    obtain⟨v',x,q1,_,q3,q4⟩:=hone ((i+1)*3+j) O
    rw[q1]at hj;cases hj
    exact(Hx q4 q3).1
   ·rw[hcell];simp;omega
   rintro ev w' ⟨rfl,rfl⟩
   obtain⟨u1,a1,a2⟩:=Dl blk moved (0+i*3) w.drew u k3
   obtain⟨u2,b1,b2⟩:=Dl blk dlZ (0+(i+(n-(i+1)))*3) (w.drew.setCells blk (0+i*3) moved) u1 a1
   have hsets:Sets w ((w.drew.setCells blk (0+i*3) moved).setCells blk (0+(i+(n-(i+1)))*3) dlZ) blk u2 e':=⟨by rw[Dk,Dk];rfl,fun c hc=>by rw[CS hc,CS hc];rfl,b1,by rw[DW,DW];rfl,by rw[D9,D9];rfl⟩
   have hval: ∀k,k<(n-1)*3→u2[k]?=if k<i*3 then u[k]? else u[k+3]?:=fun k hk=>by
    have hc2:((w.drew.setCells blk (0+i*3) moved).setCells blk (0+(i+(n-(i+1)))*3) dlZ).cell? ⟨blk,k,none⟩=u2[k]?:=by simp only[World.cell?,b1];rfl
    rw[←hc2,World.cell?_setCells_out _ _ _ _ _ (fun _ _=>Or.inl (by show k<_;omega))]
    split
    ·rename_i hki
     rw[World.cell?_setCells_out _ _ _ _ _ (fun _ _=>Or.inl (by show k<_;omega))]
     exact hcell k
    ·rename_i hki
     have:=World.cell?_setCells_in blk moved (0+i*3) w.drew (fun j hj=>by
      rw[show w.drew.cell? ⟨blk,0+i*3+j,none⟩=w.cell? ⟨blk,0+i*3+j,none⟩from rfl,hcell];rw[hml]at hj;simp;omega) (k-i*3) (by rw[hml];omega)
     rw[show 0+i*3+(k-i*3)=k by omega]at this
     rw[this,←List.getElem?_eq_getElem,hmg _ O]
     congr 1;omega
   have hsz': ∀x∈es.eraseIdx i,x.length=3:=fun x hx=>hsz x (List.mem_of_mem_eraseIdx hx)
   have hfl':(es.eraseIdx i).flatten=es.flatten.take (i*3)++es.flatten.drop ((i+1)*3):=by
    rw[List.eraseIdx_eq_take_drop_succ,List.flatten_append,M6 3 es i hsz,M7 3 es (i+1) hsz]
   have hlen':(es.eraseIdx i).flatten.length=(n-1)*3:=by
    rw[hfl',List.length_append,List.length_take,List.length_drop,hFl];omega
   have hget: ∀k,k<(n-1)*3→(es.eraseIdx i).flatten[k]?=if k<i*3 then es.flatten[k]? else es.flatten[k+3]?:=fun k hk=>by
    rw[hfl']
    have htl:(es.flatten.take (i*3)).length=i*3:=by rw[List.length_take,hFl];omega
    split
    ·rename_i hki
     rw[List.getElem?_append_left O,List.getElem?_take,if_pos hki]
    ·rename_i hki
     rw[List.getElem?_append_right O,htl,List.getElem?_drop]
     congr 1;omega
   obtain⟨q1,q2,q3⟩:=Lx hinv (B:=.grow 3 (es.eraseIdx i)) k1 k3 (by rw[b2,a2]) hsets (fun⟨cs,hcs⟩=>by rw[hb]at hcs;cases hcs) (fun hmono=>⟨hsz',.inr ⟨blk,u2,e',k1,k2,b1,by rw[hlen',b2,a2];omega,fun k v x hv hx=>by
    have hk:k<(n-1)*3:=by rw[←hlen'];exact(List.getElem?_eq_some_iff.1 hx).1
    rw[hval k hk]at hv
    rw[hget k hk]at hx
    have key: ∀k',u[k']?=some v→es.flatten[k']?=some x→CG x=true∧RelT _ g.M v x:=fun k' h1 h2=>⟨(k5 k' v x h1 h2).1,A8 (hmono _ _ (.t _ _ (k5 k' v x h1 h2).2))⟩
    split at hv
    ·rename_i hki;rw[if_pos hki]at hx;exact key k hv hx
    ·rename_i hki;rw[if_neg hki]at hx;exact key (k+3) hv hx⟩⟩)
   refine⟨_,g,J,q1,?_,q2⟩
   rw[show AV.row b 3 0 (n-1)=AV.row b 3 0 (i+(n-(i+1)))by congr 1;omega]
   exact .row b 3 0 _ blk 0 cap e' u2.size k1 (by simp only[World.shape?,b1]) (.inl Z) O (by rw[b2,a2];omega)
end Go.Proofs.YtpdmaenhenfofaaGreatDoor
