/- slices.Delete of one api.Open, in the model: turned from the worked text DeepDelWalks. -/
import Derived.Test.YtmohpcgmdheafaaGreatDoorProg
import Derived.WalkKit
import Derived.Deep.RegionLaw
set_option linter.unusedVariables false
set_option linter.unusedSimpArgs false
namespace Go.Proofs.YtmohpcgmdheafaaGreatDoor
open Go.RowKit
theorem Abu:(Tryz.prog.info? 81).map (fun i=>(i.zero,i.size,i.bytes))=some (some (.agg #[.int .i64 0,.int .i64 0,.slice none 0 0]),3,40):=by kernel_rfl
theorem Amx (W:World):(zeroValue 81).run Tryz.prog W=.ok (.agg #[.int .i64 0,.int .i64 0,.slice none 0 0]) W:=by
 obtain⟨i0,hi0,hz0,hz1,hz2⟩:=info_parts Abu
 simp[zeroValue,typeInfo,hi0,hz0]
def dlZ:List Value:=[.int .i64 0,.int .i64 0,.slice none 0 0]
theorem Aja (W:World) (b o n c:Nat) (hn:n=1) (hc: ∀j,j<3->(W.cell? ⟨b,o+j,none⟩).isSome=true) (hf: ∀j,j<3->W.frozen? ⟨b,o+j,none⟩=false):
  (Builtin.clear_ #[24] 0 #[.slice (some ⟨b,o,none⟩) n c]).run Tryz.prog W=.ok (.tuple #[]) (W.setCells b o dlZ):=by
 subst hn
 have hst:=run_storeCells_cells (P:=Tryz.prog) b o dlZ 0 W (by simpa[dlZ]using hc) (by simpa[dlZ]using hf) (by simp[dlZ,Value.oneCell'])
 simp only[Nat.add_zero]at hst
 have hz:(Builtin.zeroCells #[.int .i64 0,.int .i64 0,.slice none 0 0] 1).toList=dlZ:=by kernel_rfl
 simp[Builtin.clear_,run_underlying Tryz.underlying24,Amx,Value.cells,hz,hst]
set_option maxHeartbeats 1600000 in
set_option maxRecDepth 1000000 in
theorem Ajb (b off len cap i:Nat) (moved:List Value) (w:World) (hi:i<len) (hl:len<=cap) (hm:len<=9223372036854775807)
  (hml:moved.length=(len-(i+1))*3) (hmv: ∀j u,moved[j]?=some u->w.cell? ⟨b,off+(i+1)*3+j,none⟩=some u) (hone: ∀u∈moved,u.oneCell'=true)
  (hc: ∀j,j<cap*3->(w.cell? ⟨b,off+j,none⟩).isSome=true) (hf: ∀j,j<cap*3->w.frozen? ⟨b,off+j,none⟩=false):
  Calls Tryz.prog 142 #[.slice (some ⟨b,off,none⟩) len cap,.int .i64 i,.int .i64 ((i:Int)+1)] w fun e w'=>e=.returned (.slice (some ⟨b,off,none⟩) (i+(len-(i+1))) cap)/\w'=(w.drew.setCells b (off+i*3) moved).setCells b (off+(i+(len-(i+1)))*3) dlZ:=by
 obtain⟨i0,hi0,hz0,hz1,hz2⟩:=info_parts Abu
 obtain⟨A,hA,hnews⟩: ∃A:Addr,(if cap=i+1 then some (⟨b,off,none⟩:Addr)else some ⟨b,off+(i+1)*3,none⟩)=some A/\Hid (∀j u,moved[j]?=some u->w.drew.cell? (A.add j)=some u):=by
  by_cases h:cap=i+1
  ·refine⟨⟨b,off,none⟩,by simp[h],fun j u hu=>?_⟩
   have h0:moved.length=0:=by rw[hml];omega
   rw[List.length_eq_zero_iff.1 h0]at hu
   simp at hu
  ·refine⟨⟨b,off+(i+1)*3,none⟩,by simp[h],fun j u hu=>?_⟩
   rw[Addr.add_lit]
   exact hmv j u hu
 have s1:Hid (moved.length=(len-(i+1))*3):=hml
 have s2:Hid (∀u∈moved,u.oneCell'=true):=hone
 have s3:Hid (∀j,j<moved.length->(w.drew.cell? ⟨b,off+i*3+j,none⟩).isSome=true/\w.drew.frozen? ⟨b,off+i*3+j,none⟩=false):=by
  intro j hj
  rw[hml]at hj
  rw[Nat.add_assoc]
  exact⟨hc (i*3+j) (by omega),hf (i*3+j) (by omega)⟩
 have hic:i<=cap:=by omega
 have s4:Hid ((Builtin.clear_ #[24] 0 #[.slice (some ⟨b,off+(i+(len-(i+1)))*3,none⟩) (len-(i+(len-(i+1)))) (cap-(i+(len-(i+1))))]).run Tryz.prog (w.drew.setCells b (off+i*3) moved)=.ok (.tuple #[]) ((w.drew.setCells b (off+i*3) moved).setCells b (off+(i+(len-(i+1)))*3) dlZ)):=by
  refine Aja _ _ _ _ _ (by omega) (fun j hj=>?_) (fun j hj=>?_)
  ·rw[World.cell?_setCells_out b moved _ _ _ (fun _ _=>Or.inr (by simp;rw[hml];omega)),Nat.add_assoc]
   exact hc _ (by omega)
  ·rw[World.frozen?_setCells,Nat.add_assoc]
   exact hf _ (by omega)
 have hp0:(0:Int)<=(i:Int)+1:=by omega
 have hp1:(i:Int)+1<=(len:Int):=by omega
 have hp2:((i:Int)+1).toNat=i+1:=by omega
 clear hc hf hmv hone hml
 go_enter Tryz.func142,Tryz.ntmps142
 go_wp2_with fail
 go_region_law (refine step_append_room rfl (.tmp 22) (.tmp 25) 24 rfl 81 i0 3 Tryz.underlying24 hi0 hz1 b off i cap (by simp[Act.eval,Act.put]) A (len-(i+1)) (cap-(i+1)) moved (by simp[Act.eval,Act.put]) s1.out hnews.out s2.out (by omega) s3.out ?_)
 go_wp2
 rw[s4.out]
 go_wp2
 go_ret
 exact⟨rfl,rfl⟩
end Go.Proofs.YtmohpcgmdheafaaGreatDoor
