/- slices.Insert of one api.Open, or one api.Pend, ahead of another, in the model: turned from the worked texts SlicesInsert and SlicesInsertGrow. -/
import Derived.Test.YtppffhlbcgpgdaaGreatDoorYDl
import Derived.Shelf.Spec.SlicesInsertGrow
set_option linter.all false
namespace Go.Proofs.YtppffhlbcgpgdaaGreatDoor
open Go.RowKit Go.Lib
def Xm (S E:TypeId) (fO fI:Nat) (z:Array Value):Prop:=
 (S=33/\E=75/\fO=279/\fI=230/\z= #[.int .i64 0,.int .i64 0,.slice none 0 0])
 \/(S=39/\E=80/\fO=306/\fI=285/\z= #[.int .i64 0,.int .i64 0,.int .i64 0])
theorem We:(Tryz.prog.info? 80).map (λi=>(i.zero,i.size,i.bytes))=some (some (.agg #[.int .i64 0,.int .i64 0,.int .i64 0]),3,24):=by kernel_rfl
section
variable {S E:TypeId} {fO fI:Nat} {z:Array Value}
theorem Xl (h:Xm S E fO fI z): ∃i,Tryz.prog.info? E=some i/\i.zero=some (.agg z)/\i.size=3/\(i.bytes=40\/i.bytes=24):=by
 rcases h with⟨rfl,rfl,rfl,rfl,rfl⟩|⟨rfl,rfl,rfl,rfl,rfl⟩
 ·obtain⟨i,h1,h2,h3,h4⟩:=info_parts Os;exact⟨i,h1,h2,h3,.inl h4⟩
 ·obtain⟨i,h1,h2,h3,h4⟩:=info_parts We;exact⟨i,h1,h2,h3,.inr h4⟩
theorem Xk (h:Xm S E fO fI z):Tryz.prog.underlying S=some (.slice E)/\z.size=3/\(Value.agg z).cells=z:=by
 rcases h with⟨rfl,rfl,rfl,rfl,rfl⟩|⟨rfl,rfl,rfl,rfl,rfl⟩
 ·exact⟨Tryz.underlying33,rfl,rfl⟩
 ·exact⟨Tryz.underlying39,rfl,rfl⟩
theorem Aq5 (h:Xm S E fO fI z) (w:World):(Go.sizeOf E).run Tryz.prog w=.ok 3 w:=by
 obtain⟨i0,dT,jC,kU,k9⟩:=Xl h;simp[sizeOf,typeInfo,dT,kU]
theorem QR (hK:Xm S E fO fI z) (w:World) (ty:TypeId) (b o dLen dCap:Nat) (a:Addr) (bE cG:Nat) (cs:List Value) (hn:cs.length=Nat.min bE dLen*3)
  (cR: ∀j v,cs[j]?=some v->w.cell? (a.add j)=some v) (hc: ∀j,j<cs.length->(w.cell? ⟨b,o+j,none⟩).isSome=true) (hf: ∀j,j<cs.length->w.frozen? ⟨b,o+j,none⟩=false) (h1: ∀v∈cs,v.oneCell'=true):
  (Builtin.copy_ #[S,S] ty #[.slice (some ⟨b,o,none⟩) dLen dCap,.slice (some a) bE cG]).run Tryz.prog w=.ok (goInt (Nat.min bE dLen)) (w.setCells b o cs):=by
 obtain⟨i0,dT,jC,kU,k9⟩:=Xl hK;have hl:=run_firstCells_some (P:=Tryz.prog) w 3 (Nat.min bE dLen) a bE cG cs hn cR;have cL:=run_storeCells_cells (P:=Tryz.prog) b o cs 0 w (by simpa using hc) (by simpa using hf) h1;simp only[Nat.add_zero]at cL;simp[Builtin.copy_,run_underlying (Xk hK).1,Builtin.lenOf,sizeOf,typeInfo,dT,kU,hl,cL]
set_option maxHeartbeats 4000000 in
set_option maxRecDepth 1000000 in
theorem Ag1 (hK:Xm S E fO fI z) (b off n c i vb cQ vc:Nat) (cs vs:List Value) (w:World) (hi:i<n) (bJ:n+1<=c) (sB:n<=4611686018427387903) (oK:vb≠b)
  (bR:cs.length=n*3) (lC:vs.length=3)
  (bZ: ∀j v,cs[j]?=some v->w.cell? ⟨b,off+j,none⟩=some v) (eU: ∀j,j<(n+1)*3->(w.cell? ⟨b,off+j,none⟩).isSome=true) (dV: ∀j,j<(n+1)*3->w.frozen? ⟨b,off+j,none⟩=false)
  (gT: ∀j v,vs[j]?=some v->w.cell? ⟨vb,cQ+j,none⟩=some v) (jP: ∀v∈cs,v.oneCell'=true) (jO: ∀v∈vs,v.oneCell'=true)
  (tA tB:TypeId) (kA kB:Nat) (rO:w.shape? vb=some (tA,kA)) (kV:w.shape? b=some (tB,kB)) (sN:kB≠0) (sY:w.frozen? ⟨vb,cQ,none⟩=false) (sX:w.frozen? ⟨vb,kA,none⟩=false):
  Calls Tryz.prog fI #[.slice (some ⟨b,off,none⟩) n c,.int .i64 i,.slice (some ⟨vb,cQ,none⟩) 1 vc] w λe w'=>
   e=.returned (.slice (some ⟨b,off,none⟩) (n+1) c)/\w'=(w.drew.setCells b (off+(i+1)*3) (cs.drop (i*3))).setCells b (off+i*3) vs:=by
 have k9: ¬((i:Int)=(n:Int)):=by omega
 have hS:=(Xk hK).1;have hZ:=Aq5 hK
 have rV: ∀lb cb,(callFunc fO #[.slice (some ⟨vb,cQ,none⟩) 1 vc,.slice (some ⟨b,off+(i+1)*3,none⟩) lb cb]).run Tryz.prog w=.ok (.value (.bool false)) w:=λlb cb=>by
  rcases hK with⟨rfl,rfl,rfl,rfl,rfl⟩|⟨rfl,rfl,rfl,rfl,rfl⟩
  ·rw[run_callFunc_extern Tryz.func279 (by kernel_rfl) (by kernel_rfl) (by kernel_rfl) (e:=Extern.SlicesOverlaps.overlaps #[33,33] #[4]) (by kernel_rfl),Lib.run_overlaps_apart w _ 4 _ hS 3 hZ ⟨vb,cQ,none⟩ ⟨b,off+(i+1)*3,none⟩ 1 vc lb cb oK tA tB kA kB rO kV sN sY sX];rfl
  ·rw[run_callFunc_extern Tryz.func306 (by kernel_rfl) (by kernel_rfl) (by kernel_rfl) (e:=Extern.SlicesOverlaps.overlaps #[39,39] #[4]) (by kernel_rfl),Lib.run_overlaps_apart w _ 4 _ hS 3 hZ ⟨vb,cQ,none⟩ ⟨b,off+(i+1)*3,none⟩ 1 vc lb cb oK tA tB kA kB rO kV sN sY sX];rfl
 have gD:(cs.drop (i*3)).length=(n-i)*3:=by rw[List.length_drop,bR];omega
 have dD:IntKind.i64.wrap ((i:Int)+1)=(i:Int)+1:=by rw[IntKind.wrap_i64];omega
 have iW:(0:Int)<=(i:Int)+1:=by omega
 have cK:i<=n:=by omega
 have rF:((i:Int)+1).toNat=i+1:=by omega
 have mL: ¬(c=i+1):=by omega
 have tM:(i:Int)<=(n:Int)+1:=by omega
 have hb4: ¬(c=i):=by omega
 have kK: ∀ty dc sc,(Builtin.copy_ #[S,S] ty #[.slice (some ⟨b,off+(i+1)*3,none⟩) (n-i) dc,.slice (some ⟨b,off+i*3,none⟩) (n+1-i) sc]).run Tryz.prog w.drew=.ok (goInt (Nat.min (n+1-i) (n-i))) (w.drew.setCells b (off+(i+1)*3) (cs.drop (i*3))):=λty dc sc=>
  QR hK w.drew ty b (off+(i+1)*3) (n-i) dc ⟨b,off+i*3,none⟩ (n+1-i) sc (cs.drop (i*3)) (by rw[gD];simp only[Nat.min_def];split<;>omega)
   (λj v hj=>by rw[Addr.add_lit,Nat.add_assoc];exact bZ (i*3+j) v (by rwa[List.getElem?_drop]at hj))
   (λj hj=>by rw[Nat.add_assoc];exact eU _ (by omega)) (λj hj=>by rw[Nat.add_assoc];exact dV _ (by omega)) (λv hv=>jP v (List.mem_of_mem_drop hv))
 obtain⟨W1,fC⟩: ∃W1,W1=w.drew.setCells b (off+(i+1)*3) (cs.drop (i*3)):=⟨_,rfl⟩
 have m0: ∀k,k<(n+1)*3->(W1.cell? ⟨b,off+k,none⟩).isSome=true:=λk hk=>by
  rw[fC];exact isSome_setCells b _ _ _ (λj hj=>by rw[Nat.add_assoc];exact eU _ (by omega)) _ (eU k hk)
 have nP: ∀(W:World),(∀x,W.cell? x=W1.cell? x)->(∀x,W.frozen? x=W1.frozen? x)-> ∀ty dc,(Builtin.copy_ #[S,S] ty #[.slice (some ⟨b,off+i*3,none⟩) (n+1-i) dc,.slice (some ⟨vb,cQ,none⟩) 1 vc]).run Tryz.prog W=.ok (goInt (Nat.min 1 (n+1-i))) (W.setCells b (off+i*3) vs):=λW hZ kS ty dc=>
  QR hK W ty b (off+i*3) (n+1-i) dc ⟨vb,cQ,none⟩ 1 vc vs (by rw[lC];simp only[Nat.min_def];split<;>omega)
   (λj v hj=>by
    rw[Addr.add_lit,hZ,fC,World.cell?_setCells_out b _ _ _ _ (λh _=>absurd h oK)]
    exact gT j v hj)
   (λj hj=>by rw[hZ,Nat.add_assoc];exact m0 _ (by omega)) (λj hj=>by rw[kS,fC,World.frozen?_setCells,Nat.add_assoc];exact dV _ (by omega)) jO
 rw[<-fC]at kK;have mixed:Tryz.prog.follows .mixedOrders=true:=by kernel_rfl
 rcases hK with⟨rfl,rfl,rfl,rfl,rfl⟩|⟨rfl,rfl,rfl,rfl,rfl⟩
 ·go_enter Tryz.func230,Tryz.ntmps230
  go_wp2_with (simp only[rV])
  go_region_law_o (refine step_copy_runI rfl _ _ _ _ rfl _ _ (by simp[Act.eval,Act.put]) (by simp[Act.eval,Act.put]) (kK _ _ _) ?_)
  go_wp2_with (at_builtin;refine wpList_copy_runI _ rfl _ _ _ _ rfl _ _ rfl rfl (nP _ (λ_=>rfl) (λ_=>rfl) _ _) ?_)
  go_ret
  first|exact⟨rfl,rfl⟩|exact⟨rfl,by rw[fC]⟩
 ·go_enter Tryz.func285,Tryz.ntmps285
  go_wp2_with (simp only[rV])
  go_region_law_o (refine step_copy_runI rfl _ _ _ _ rfl _ _ (by simp[Act.eval,Act.put]) (by simp[Act.eval,Act.put]) (kK _ _ _) ?_)
  go_wp2_with (at_builtin;refine wpList_copy_runI _ rfl _ _ _ _ rfl _ _ rfl rfl (nP _ (λ_=>rfl) (λ_=>rfl) _ _) ?_)
  go_ret
  first|exact⟨rfl,rfl⟩|exact⟨rfl,by rw[fC]⟩
set_option maxHeartbeats 4000000 in
set_option maxRecDepth 1000000 in
theorem Alt (hK:Xm S E fO fI z) (b off n i vb cQ vc:Nat) (cs vs:List Value) (w:World) (hi:i<n) (nR:(n+1)*40<=140737488355328)
  (bR:cs.length=n*3) (lC:vs.length=3)
  (bZ: ∀j v,cs[j]?=some v->w.cell? ⟨b,off+j,none⟩=some v)
  (gT: ∀j v,vs[j]?=some v->w.cell? ⟨vb,cQ+j,none⟩=some v) (jP: ∀v∈cs,v.oneCell'=true) (jO: ∀v∈vs,v.oneCell'=true):
  Calls Tryz.prog fI #[.slice (some ⟨b,off,none⟩) n n,.int .i64 i,.slice (some ⟨vb,cQ,none⟩) 1 vc] w λe w'=>
   e=.returned (.slice (some ⟨w.heap.size,0,none⟩) (n+1) (grownCap w (n+1) n E))/\
   w'=(((w.alloc (.cells ((cs.take (i*3)).toArray++Builtin.zeroCells z (n+1-i)++Builtin.zeroCells z (grownCap w (n+1) n E-(n+1))) E)).drew.setCells w.heap.size (i*3) vs).drew).setCells w.heap.size ((i+1)*3) (cs.drop (i*3)):=by
 obtain⟨i0,dT,jC,fE,oI⟩:=Xl hK;have k9: ¬((i:Int)=(n:Int)):=by omega
 have hz3:(n:Int)<(n:Int)+1:=by omega
 have tI:b<w.heap.size:=block_lt_of_cell (bZ 0 _ (List.getElem?_eq_getElem (by omega)));have rC:vb<w.heap.size:=block_lt_of_cell (gT 0 _ (List.getElem?_eq_getElem (by omega)));have nG:(n:Int)+1-(i:Int)=((n+1-i:Nat):Int):=by omega
 have lK:i+(n+1-i)=n+1:=by omega
 have hold:(Builtin.firstCells i0.size i (.slice (some ⟨b,off,none⟩) i n)).run Tryz.prog w.drew=.ok (cs.take (i*3)).toArray w.drew:=by
  rw[fE]
  exact run_firstCells_some w.drew 3 i ⟨b,off,none⟩ i n (cs.take (i*3)) (by rw[List.length_take];omega) (λj v hj=>by
   rw[Addr.add_lit];rw[List.getElem?_take]at hj;split at hj
   ·exact bZ j v hj
   ·cases hj)
 have lF: ∀ty,(Builtin.append_ #[S,3] ty #[.slice (some ⟨b,off,none⟩) i n,.int .i64 ((n:Int)+1-(i:Int))]).run Tryz.prog w=
   .ok (.slice (some ⟨w.heap.size,0,none⟩) (n+1) (grownCap w (n+1) n E)) (w.drew.alloc (.cells ((cs.take (i*3)).toArray++Builtin.zeroCells z (n+1-i)++Builtin.zeroCells z (grownCap w (n+1) n E-(n+1))) E)):=λty=>by
  have h:=Lib.run_append_grow_zeros w S 3 ty E i0 _ .i64 .i64 (Xk hK).1 Tryz.underlying3 dT jC (some ⟨b,off,none⟩) i n (cs.take (i*3)) hold (n+1-i) (by omega) (by omega) (by omega) (by omega) (by rcases oI with h|h<;>rw[h]<;>omega) (by rcases oI with h|h<;>rw[h,lK]<;>exact growslice_fits (by omega) (by omega));rw[lK,(Xk hK).2.2]at h;rw[nG];exact h
 obtain⟨G,hG⟩: ∃G,G=grownCap w (n+1) n E:=⟨_,rfl⟩
 obtain⟨ROW,iY⟩: ∃ROW:Array Value,ROW=(cs.take (i*3)).toArray++Builtin.zeroCells z (n+1-i)++Builtin.zeroCells z (G-(n+1)):=⟨_,rfl⟩
 rw[<-hG]at lF⊢;rw[<-iY]at lF⊢
 have tU:(n+1)*3<=ROW.size:=by
  have h3:=(Xk hK).2.1;rw[iY];simp[size_zeroCells,h3];omega
 obtain⟨W1,fC⟩: ∃W1,W1=w.drew.alloc (.cells ROW E):=⟨_,rfl⟩
 rw[<-fC]at lF
 have hN: ∀j,j<(n+1)*3->(W1.cell? ⟨w.heap.size,j,none⟩).isSome=true:=λj hj=>by
  rw[fC,World.cell?_alloc_at (w:=w.drew) ROW _ w.heap.size j rfl,Array.getElem?_eq_getElem (by omega)];rfl
 have qF: ∀j,W1.frozen? ⟨w.heap.size,j,none⟩=false:=λj=>by rw[fC];exact World.frozen?_alloc_at (w:=w.drew) ROW _ w.heap.size j rfl
 have tW: ∀j v,w.cell? ⟨b,j,none⟩=some v->W1.cell? ⟨b,j,none⟩=some v:=λj v h=>by rw[fC,World.cell?_alloc_past (w:=w.drew) _ b j tI];exact h
 have tV: ∀j v,w.cell? ⟨vb,j,none⟩=some v->W1.cell? ⟨vb,j,none⟩=some v:=λj v h=>by rw[fC,World.cell?_alloc_past (w:=w.drew) _ vb j rC];exact h
 have nO: ∀(W:World),(∀x,W.cell? x=W1.cell? x)->(∀x,W.frozen? x=W1.frozen? x)-> ∀ty dc,(Builtin.copy_ #[S,S] ty #[.slice (some ⟨w.heap.size,i*3,none⟩) (n+1-i) dc,.slice (some ⟨vb,cQ,none⟩) 1 vc]).run Tryz.prog W=.ok (goInt (Nat.min 1 (n+1-i))) (W.setCells w.heap.size (i*3) vs):=λW hZ kS ty dc=>
  QR hK W ty w.heap.size (i*3) (n+1-i) dc ⟨vb,cQ,none⟩ 1 vc vs (by rw[lC];simp only[Nat.min_def];split<;>omega)
   (λj v hj=>by rw[Addr.add_lit,hZ];exact tV _ v (gT j v hj))
   (λj hj=>by rw[hZ];exact hN _ (by omega)) (λj hj=>by rw[kS];exact qF _) jO
 have tY:n+1<=G:=by rw[hG];exact grownCap_ge w _ _ _
 have uA:G<=9223372036854775807:=by
  have:=grownCap_le_maxLen w (n+1) n E (by unfold maxLen;omega);rw[<-hG]at this;unfold maxLen at this;omega
 have hGi: ¬(G=i):=by omega
 have nX: ¬(G=i+1)\/G=i+1:=by omega
 have hci: ¬(n=i):=by omega
 have tL:b≠w.heap.size:=by omega
 have gD:(cs.drop (i*3)).length=(n-i)*3:=by rw[List.length_drop,bR];omega
 have kJ: ∀(W:World),(∀x,W.cell? x=(W1.setCells w.heap.size (i*3) vs).cell? x)->(∀x,W.frozen? x=(W1.setCells w.heap.size (i*3) vs).frozen? x)-> ∀ty dc sc,(Builtin.copy_ #[S,S] ty #[.slice (some ⟨w.heap.size,(i+1)*3,none⟩) (n-i) dc,.slice (some ⟨b,off+i*3,none⟩) (n-i) sc]).run Tryz.prog W=.ok (goInt (Nat.min (n-i) (n-i))) (W.setCells w.heap.size ((i+1)*3) (cs.drop (i*3))):=λW hZ kS ty dc sc=>
  QR hK W ty w.heap.size ((i+1)*3) (n-i) dc ⟨b,off+i*3,none⟩ (n-i) sc (cs.drop (i*3)) (by rw[gD];simp only[Nat.min_def];split<;>omega)
   (λj v hj=>by
    rw[Addr.add_lit,hZ,World.cell?_setCells_out _ _ _ _ _ (λh _=>absurd h tL),Nat.add_assoc]
    exact tW _ v (bZ (i*3+j) v (by rwa[List.getElem?_drop]at hj)))
   (λj hj=>by rw[hZ];exact isSome_setCells _ _ _ _ (λt ht=>hN _ (by omega)) _ (hN _ (by omega)))
   (λj hj=>by rw[kS,World.frozen?_setCells];exact qF _) (λv hv=>jP v (List.mem_of_mem_drop hv))
 subst fC;have uF: ∀x,((w.alloc (.cells ROW E)).drew).cell? x=(w.drew.alloc (.cells ROW E)).cell? x:=λx=>rfl;have uD: ∀x,((w.alloc (.cells ROW E)).drew).frozen? x=(w.drew.alloc (.cells ROW E)).frozen? x:=λx=>rfl;have uC: ∀x,(((w.alloc (.cells ROW E)).drew.setCells w.heap.size (i*3) vs).drew).cell? x=((w.drew.alloc (.cells ROW E)).setCells w.heap.size (i*3) vs).cell? x:=λx=>rfl;have uB: ∀x,(((w.alloc (.cells ROW E)).drew.setCells w.heap.size (i*3) vs).drew).frozen? x=((w.drew.alloc (.cells ROW E)).setCells w.heap.size (i*3) vs).frozen? x:=λx=>rfl;have dD:IntKind.i64.wrap ((i:Int)+1)=(i:Int)+1:=by rw[IntKind.wrap_i64];omega
 have iW:(0:Int)<=(i:Int)+1:=by omega
 have cK:i<=n:=by omega
 have rF:((i:Int)+1).toNat=i+1:=by omega
 have tM:(i:Int)<=(n:Int):=by omega
 have tZ: ¬(G=i+1):=by omega
 have mixed:Tryz.prog.follows .mixedOrders=true:=by kernel_rfl
 clear nG lK hold iY hG tU nX;rcases hK with⟨rfl,rfl,rfl,rfl,rfl⟩|⟨rfl,rfl,rfl,rfl,rfl⟩
 ·go_enter Tryz.func230,Tryz.ntmps230
  go_wp2_with (first
   |(at_builtin;refine Lib.wpList_append_run _ rfl _ _ _ _ rfl _ _ rfl rfl _ _ (lF _) ?_)
   |(at_builtin;refine wpList_copy_runI _ rfl _ _ _ _ rfl _ _ rfl rfl (nO _ uF uD _ _) ?_)
   |(at_builtin;refine wpList_copy_runI _ rfl _ _ _ _ rfl _ _ rfl rfl (kJ _ (λ_=>rfl) (λ_=>rfl) _ _ _) ?_))
  go_region_law_o (refine step_copy_runI rfl _ _ _ _ rfl (.slice (some ⟨w.heap.size,(i+1)*3,none⟩) (n-i) (G-(i+1))) (.slice (some ⟨b,off+i*3,none⟩) (n-i) (n-i)) (by simp[Act.eval,Act.put]) (by simp[Act.eval,Act.put]) (kJ _ uC uB 3 (G-(i+1)) (n-i)) ?_)
  go_wp2
  go_ret
  exact⟨rfl,rfl⟩
 ·go_enter Tryz.func285,Tryz.ntmps285
  go_wp2_with (first
   |(at_builtin;refine Lib.wpList_append_run _ rfl _ _ _ _ rfl _ _ rfl rfl _ _ (lF _) ?_)
   |(at_builtin;refine wpList_copy_runI _ rfl _ _ _ _ rfl _ _ rfl rfl (nO _ uF uD _ _) ?_)
   |(at_builtin;refine wpList_copy_runI _ rfl _ _ _ _ rfl _ _ rfl rfl (kJ _ (λ_=>rfl) (λ_=>rfl) _ _ _) ?_))
  go_region_law_o (refine step_copy_runI rfl _ _ _ _ rfl (.slice (some ⟨w.heap.size,(i+1)*3,none⟩) (n-i) (G-(i+1))) (.slice (some ⟨b,off+i*3,none⟩) (n-i) (n-i)) (by simp[Act.eval,Act.put]) (by simp[Act.eval,Act.put]) (kJ _ uC uB 3 (G-(i+1)) (n-i)) ?_)
  go_wp2
  go_ret
  exact⟨rfl,rfl⟩
end
