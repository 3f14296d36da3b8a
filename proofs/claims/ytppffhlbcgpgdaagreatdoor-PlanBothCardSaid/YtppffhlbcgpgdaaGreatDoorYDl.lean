/- slices.Delete of one api.Open, in the model: turned from the worked text DeepDelWalks. -/
import Derived.Test.YtppffhlbcgpgdaaGreatDoorProg
import Derived.WalkKit
import Derived.Deep.RegionLaw
set_option linter.all false
namespace Go.Proofs.YtppffhlbcgpgdaaGreatDoor
open Go.RowKit
theorem Os:(Tryz.prog.info? 75).map (λi=>(i.zero,i.size,i.bytes))=some (some (.agg #[.int .i64 0,.int .i64 0,.slice none 0 0]),3,40):=by kernel_rfl
theorem Arw (W:World):(zeroValue 75).run Tryz.prog W=.ok (.agg #[.int .i64 0,.int .i64 0,.slice none 0 0]) W:=by
 obtain⟨i0,dT,jC,kU,k9⟩:=info_parts Os;simp[zeroValue,typeInfo,dT,jC]
def DR:List Value:=[.int .i64 0,.int .i64 0,.slice none 0 0]
theorem Ank (W:World) (b o n c:Nat) (hn:n=1) (hc: ∀j,j<3->(W.cell? ⟨b,o+j,none⟩).isSome=true) (hf: ∀j,j<3->W.frozen? ⟨b,o+j,none⟩=false):
  (Builtin.clear_ #[33] 0 #[.slice (some ⟨b,o,none⟩) n c]).run Tryz.prog W=.ok (.tuple #[]) (W.setCells b o DR):=by
 subst hn;have cL:=run_storeCells_cells (P:=Tryz.prog) b o DR 0 W (by simpa[DR]using hc) (by simpa[DR]using hf) (by simp[DR,Value.oneCell']);simp only[Nat.add_zero]at cL;have hz:(Builtin.zeroCells #[.int .i64 0,.int .i64 0,.slice none 0 0] 1).toList=DR:=by kernel_rfl
 simp[Builtin.clear_,run_underlying Tryz.underlying33,Arw,Value.cells,hz,cL]
set_option maxHeartbeats 1600000 in
set_option maxRecDepth 1000000 in
theorem Ann (b off len cap i:Nat) (bV:List Value) (w:World) (hi:i<len) (hl:len<=cap) (hm:len<=9223372036854775807)
  (i7:bV.length=(len-(i+1))*3) (gB: ∀j u,bV[j]?=some u->w.cell? ⟨b,off+(i+1)*3+j,none⟩=some u) (aU: ∀u∈bV,u.oneCell'=true)
  (hc: ∀j,j<cap*3->(w.cell? ⟨b,off+j,none⟩).isSome=true) (hf: ∀j,j<cap*3->w.frozen? ⟨b,off+j,none⟩=false):
  Calls Tryz.prog 157 #[.slice (some ⟨b,off,none⟩) len cap,.int .i64 i,.int .i64 ((i:Int)+1)] w λe w'=>e=.returned (.slice (some ⟨b,off,none⟩) (i+(len-(i+1))) cap)/\w'=(w.drew.setCells b (off+i*3) bV).setCells b (off+(i+(len-(i+1)))*3) DR:=by
 obtain⟨i0,dT,jC,kU,k9⟩:=info_parts Os
 obtain⟨A,hA,eX⟩: ∃A:Addr,(if cap=i+1 then some (⟨b,off,none⟩:Addr)else some ⟨b,off+(i+1)*3,none⟩)=some A/\Hid (∀j u,bV[j]?=some u->w.drew.cell? (A.add j)=some u):=by
  by_cases h:cap=i+1
  ·refine⟨⟨b,off,none⟩,by simp[h],λj u hu=>?_⟩;have h0:bV.length=0:=by rw[i7];omega
   rw[List.length_eq_zero_iff.1 h0]at hu;simp at hu
  ·refine⟨⟨b,off+(i+1)*3,none⟩,by simp[h],λj u hu=>?_⟩;rw[Addr.add_lit];exact gB j u hu
 have s1:Hid (bV.length=(len-(i+1))*3):=i7;have s2:Hid (∀u∈bV,u.oneCell'=true):=aU
 have s3:Hid (∀j,j<bV.length->(w.drew.cell? ⟨b,off+i*3+j,none⟩).isSome=true/\w.drew.frozen? ⟨b,off+i*3+j,none⟩=false):=by
  intro j hj;rw[i7]at hj;rw[Nat.add_assoc];exact⟨hc (i*3+j) (by omega),hf (i*3+j) (by omega)⟩
 have hic:i<=cap:=by omega
 have s4:Hid ((Builtin.clear_ #[33] 0 #[.slice (some ⟨b,off+(i+(len-(i+1)))*3,none⟩) (len-(i+(len-(i+1)))) (cap-(i+(len-(i+1))))]).run Tryz.prog (w.drew.setCells b (off+i*3) bV)=.ok (.tuple #[]) ((w.drew.setCells b (off+i*3) bV).setCells b (off+(i+(len-(i+1)))*3) DR)):=by
  refine Ank _ _ _ _ _ (by omega) (λj hj=>?_) (λj hj=>?_)
  ·rw[World.cell?_setCells_out b bV _ _ _ (λ_ _=>Or.inr (by simp;rw[i7];omega)),Nat.add_assoc];exact hc _ (by omega)
  ·rw[World.frozen?_setCells,Nat.add_assoc];exact hf _ (by omega)
 have aY:(0:Int)<=(i:Int)+1:=by omega
 have n7:(i:Int)+1<=(len:Int):=by omega
 have qL:((i:Int)+1).toNat=i+1:=by omega
 clear hc hf gB aU i7
 go_enter Tryz.func157,Tryz.ntmps157
 go_wp2_with fail
 go_region_law (refine step_append_room rfl (.tmp 22) (.tmp 25) 33 rfl 75 i0 3 Tryz.underlying33 dT kU b off i cap (by simp[Act.eval,Act.put]) A (len-(i+1)) (cap-(i+1)) bV (by simp[Act.eval,Act.put]) s1.out eX.out s2.out (by omega) s3.out ?_)
 go_wp2
 rw[s4.out]
 go_wp2
 go_ret
 exact⟨rfl,rfl⟩
