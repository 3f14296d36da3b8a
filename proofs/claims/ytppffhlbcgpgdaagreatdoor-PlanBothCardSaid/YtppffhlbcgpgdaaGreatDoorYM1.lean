/- The general texts of the abstract machine, joined: Am1, Am2, Am3, Am4, Am5, Am6, Am7, Am8, Am9, Am10, Am11, Am12. -/
import Derived.KernelRfl
import Derived.Calls
import Derived.Orders
import Derived.Scope
import Derived.Laws.Cells
import Derived.Laws.World
import Derived.Laws.Sem
import Derived.Laws.Strings
import Derived.RangeFuncLeaves
import Derived.TacticsIn
import Derived.LoopNIn
import Derived.OrdersIn
import Derived.RangeFuncCalls
import Derived.Laws.StructEq
import Derived.Laws.CopyRow
import Derived.Laws.Append
import Derived.Laws.AppendOwn
set_option linter.all false
namespace Go.Am
def Kv:=@List.getElem?_eq_getElem
def Qp:=@Bool.and_eq_true
def QQ:=@List.take_of_length_le
def Ts:=@List.length_map
def Ug:=@if_neg
def Uj:=@decide_eq_true_eq
def WU:=@if_pos
def WW:=@Nat.le_refl
def Xp:=@List.length_append
def Xs:=@if_true
def Ya:=@Classical.byContradiction
def Y5:=@Result.andThen_ok
def ZF:=@if_false
def ZH:=@List.getElem?_eq_some_iff
def Abh:=@List.getElem?_append_left
def Aez:=@List.getElem?_append_right
def Agx:=@Array.getElem?_toList
def Agz:=@List.getElem_mem
def Ake:=@Sem.run_bind
def Als:=@List.mem_cons
def Aoy:=@List.getElem?_take
def Apj:=@List.mem_of_getElem?
def Aq1:=@List.eq_nil_of_length_eq_zero
def Atj:=@Nat.zero_add
def A0s:=@Bool.false_eq_true
def A2i:=@List.length_take
def A2x:=@List.pairwise_cons
def A2z:=@List.length_cons
def A21:=@List.all_eq_true
def A22:=@List.pairwise_append
def A23:=@Array.getElem?_eq_getElem
def A25:=@List.mem_append
def A26:=@Option.some.injEq
def A29:=@World.putObj_heap_other
def A3a:=@Go.run_underlying
def A3b:=@List.size_toArray
def A3c:=@List.mem_of_mem_take
def A32:=@decide_eq_true
def A33:=@List.append_assoc
def A34:=@Classical.not_not
def A38:=@List.map_append
def A39:=@Array.getElem?_eq_none
def A4a:=@Array.getElem?_append_left
def A4f:=@Nat.eq_of_beq_eq_true
def A4g:=@Option.map_some
def A4h:=@List.mem_singleton
def A4i:=@Nat.lt_or_ge
def A4t:=@Sem.run_pure
def A4u:=@List.any_eq_false
def A4w:=@Array.getElem?_replicate
def A4y:=@Nat.lt_of_lt_of_le
def A4z:=@List.getElem?_drop
def A40:=@List.mem_of_find?_eq_some
def A42:=@List.getElem?_map
def A43:=@List.length_drop
def A44:=@decide_eq_false
def A46:=@List.length_nil
def A47:=@Nat.le_trans
def A48:=@List.flatten_append
def A5a:=@Bool.true_and
def A5b:=@Array.getD_eq_getD_getElem?
def A5c:=@of_decide_eq_true
def A5d:=@wpIn_mono
def A5e:=@List.findIdx?_eq_none_iff
def A5f:=@Bool.eq_iff_iff
def A5g:=@List.flatten_cons
def A5h:=@List.map_cons
def A5i:=@List.find?_eq_none
def A5j:=@List.take_append_drop
def A5n:=@List.cons_append
def A5o:=@List.take_length
def A5p:=@Array.size_append
def A5r:=@Nat.mul_le_mul_right
def A5s:=@congrArg
def A5t:=@Nat.zero_le
def A5u:=@List.append_nil
def A5v:=@Array.ext'
def A5w:=@List.getElem?_eq_none
def A5x:=@World.putObj_size
def A5y:=@Bool.not_eq_true'
def A5z:=@List.getElem?_cons_succ
def A50:=@Bool.true_eq_false
def A51:=@List.mem_take_iff_getElem
def A52:=@List.pairwise_iff_getElem
def A53:=@Array.length_toList
def A54:=@List.length_pos_iff
def A56:=@Option.isSome_iff_exists
def A57:=@List.mem_cons_of_mem
def A58:=@Nat.succ_mul
def A59:=@Array.getElem?_eq_some_iff
def A6a:=@List.eq_nil_iff_forall_not_mem
def A6b:=@Bool.or_eq_true
def A6c:=@List.mem_filter
def A6d:=@List.find?_some
def A6e:=@List.getLast?_eq_none_iff
def A6f:=@Ne.symm
def A6g:=@Nat.le_of_ble_eq_true
def A6h:=@Iff.rfl
def A6i:=@Nat.blt_eq
def A6k:=@List.mem_of_mem_drop
def A6l:=@size_zeroCells
def A6m:=@List.foldl_cons
def A6n:=@List.drop_of_length_le
def A6o:=@List.findIdx?_eq_some_iff_getElem
def A6p:=@Prod.mk.injEq
def A6r:=@List.exists_cons_of_ne_nil
def A6s:=@List.any_eq_true
def A6t:=@List.take_zero
def A6u:=@Array.getElem?_modify
def A6v:=@Nat.add_mul
def A6w:=@List.nil_append
def A6x:=@cond_true
def A6y:=@List.all_cons
def A6z:=@List.filter_eq_self
def A60:=@Bool.and_assoc
def A61:=@cond_false
def A62:=@Nat.mul_one
def A63:=@grownCap_ge
def A64:=@decide_false
def A65:=@List.length_filter_le
def A66:=@List.flatMap_cons
def A67:=@List.drop_eq_getElem_cons
def A68:=@List.length_eraseIdx
def A69:=@decide_true
def A7a:=@Nat.beq_refl
def A7b:=@true_and
def A7c:=@decide_eq_decide
def A7d:=@List.getElem_of_mem
def A7e:=@List.getElem?_range
def A7f:=@Array.getElem?_setIfInBounds_ne
def A7g:=@List.pairwise_lt_range'
def A7h:=@decide_eq_false_iff_not
def A7i:=@Nat.min_eq_left
def A7j:=@wpIn_region_any
def A7k:=@List.getElem?_toArray
def A7l:=@List.set_append_right
def A7m:=@Array.getElem?_append_right
def A7n:=@Bool.or_eq_false_iff
def A7o:=@List.getElem?_of_mem
def A7p:=@List.flatMap_nil
def A7q:=@Nat.add_assoc
def A7r:=@List.map_drop
def A7s:=@Int.add_assoc
def A7t:=@List.replicate_succ
def A7u:=@List.flatMap_append
def A7v:=@List.extract_eq_take_drop
def A7w:=@List.nodup_cons
def A7x:=@List.getLast?_eq_some_iff
def A7y:=@List.append_of_mem
def A7z:=@List.mem_range
def A70:=@List.getElem?_replicate
def A71:=@run_storeCells_at
def A72:=@List.mem_range'_1
def A73:=@Decidable.not_not
def A74:=@List.pairwise_map
def A75:=@World.putObj_heap_same
def A76:=@List.set_eq_take_append_cons_drop
def A77:=@List.filter_eq_nil_iff
def A78:=@Bool.and_true
def A79:=@Array.all_eq_true_iff_forall_mem
def A8a:=@Bool.not_eq_true
def A8b:=@and_true
def A8c:=@List.filter_cons
def A8d:=@Eq.trans
def A8e:=@List.contains_iff_mem
def A8f:=@List.Pairwise.sublist
def A8g:=@List.length_singleton
def A8h:=@List.extract_toArray
def A8i:=@List.all_append
def A8j:=@List.map_nil
def A8k:=@List.find?_eq_some_iff_getElem
def A8l:=@Int.natCast_add
def A8m:=@List.mem_iff_getElem
def A8n:=@List.mem_of_getLast?
def A8o:=@List.drop_append_of_le_length
def A8p:=@List.drop_succ_cons
def A8q:=@List.drop_zero
def A8r:=@List.take_length_add_append
def A8s:=@List.drop_length_add_append
def A8t:=@Nat.eq_zero_or_pos
def A8u:=@Oper.semAt_eq
def A8v:=@List.map_take
def A8w:=@List.getElem?_set
def A8x:=@Nat.lt_trichotomy
def A8y:=@List.take_sublist
def A8z:=@List.foldl_append
def A80:=@Nat.add_zero
def A81:=@Option.getD_some
def A82:=@Int.fdiv_eq_ediv
def A83:=@Nat.succ_ne_zero
theorem Y.{u} {α:Sort u} {a:α}:a=a:=rfl
theorem Aa {p:Prop} (h:p:=by omega):p:=h
theorem Ab {p:Prop} (h:p:=by kernel_rfl):p:=h
theorem Ac {p:Prop} (h:p:=by simp):p:=h
theorem Ad {p:Prop} (h:p:=by assumption):p:=h
theorem Ae {p:Prop} (h:p:=by decide):p:=h
def look {α:Type}:List (Nat×α)->Nat->Option α
 |[],_=>none
 |(k,x)::r,n=>bif Nat.beq k n then some x else look r n
theorem Ap {α:Type} (k:Nat) (x:α) (r:List (Nat×α)) (n:Nat):look ((k,x)::r) n=if k=n then some x else look r n:=by
 by_cases h:k=n
 ·subst h;simp[look]
 ·have:Nat.beq k n=false:=by
   cases hb:Nat.beq k n with
   |false=>rfl
   |true=>exact absurd (A4f hb) h
  simp[look,this,h]
inductive SM where
 |any|full|nil
 |phys (b N:Nat)
 deriving DecidableEq
inductive T where
 |undef
 |bool (b:Bool)
 |int (k:IntKind) (n:Int)
 |str (s:List UInt8)
 |slice (m:SM) (sz:Nat) (es:List (List T))
 |ptr (cs:List T)
 |nilPtr
 |nilIface
 |nilFunc
 |nilMap
 |iface (t:Nat) (x:T)
 |func (fn:Fn) (first cap:List T)
 |agg (cs:List T)
 |tuple (vs:List T)
inductive AV where
 |t (x:T)
 |top
 |ref (b off:Nat)
 |eref (b sz k off:Nat)
 |mref (b:Nat)
 |row (b sz lo len:Nat)
 |iface (t:Nat) (x:AV)
 |func (fn:Fn) (first cap:List AV)
 |agg (cs:List AV)
 |tuple (vs:List AV)
inductive Blk where
 |cells (cs:List AV)
 |grow (sz:Nat) (es:List (List T))
 |rights (L:List (Nat×Nat×Nat))
 |loop (l:Nat) (st:LoopState) (pe:Option Code) (ps:Array Tmp) (asg bd:Code) (n:Nat) (env:List (Nat×AV))
 |mp (ks:List T) (xs:List AV)
abbrev A2:=List (Nat×AV)
abbrev St:=List (Nat×Blk)
structure G where
 β:Nat->Option (Option Nat)
 own:Nat->Prop
 oth:Nat->Nat->Prop
 bx:Nat->Prop
 sp:Nat->Option Nat
 lo:Nat:=0
def G.M (g:G) (b o:Nat):Prop:=(g.own b/\ ∀e,g.sp b=some e->e<=o)\/g.oth b o
def CV:T->Bool
 |.undef=>false
 |.agg _=>false
 |.tuple _=>false
 |_=>true
inductive RelT (w:World) (M:Nat->Nat->Prop):Value->T->Prop where
 |undef:RelT w M Go.undef .undef
 |bool (b:Bool):RelT w M (.bool b) (.bool b)
 |int (k:IntKind) (n:Int):RelT w M (.int k n) (.int k n)
 |str (s:List UInt8):RelT w M (.string ⟨s.toArray⟩) (.str s)
 |sliceNil (m:SM) (sz:Nat):RelT w M (.slice none 0 0) (.slice m sz [])
 |sliceZ (a:Addr) (m:SM) (sz:Nat) (hm:m≠ .nil):RelT w M (.slice (some a) 0 0) (.slice m sz [])
 |slice (b off len cap:Nat) (m:SM) (sz:Nat) (es:List (List T)) (vs:Nat->Value) (hl:es.length=len) (hc:len<=cap) (hf:m=.full->cap=len) (hm:m≠ .nil) (hp: ∀p N,m=.phys p N->b=p/\off=0/\cap*sz<=N)
   (aN: ∀e∈es,e.length=sz) (aU: ∀(i:Nat) x,es.flatten[i]?=some x->CV x=true) (aL: ∀i x,es.flatten[i]?=some x-> ¬M b (off+i)/\w.cell? ⟨b,off+i,none⟩=some (vs i))
   (aJ: ∀i x,es.flatten[i]?=some x->RelT w M (vs i) x):RelT w M (.slice (some ⟨b,off,none⟩) len cap) (.slice m sz es)
 |ptr (b off:Nat) (cs:List T) (vs:Nat->Value) (aU: ∀(i:Nat) x,cs[i]?=some x->CV x=true) (aL: ∀i x,cs[i]?=some x-> ¬M b (off+i)/\w.cell? ⟨b,off+i,none⟩=some (vs i))
   (aJ: ∀i x,cs[i]?=some x->RelT w M (vs i) x):RelT w M (.pointer (some ⟨b,off,none⟩)) (.ptr cs)
 |nilPtr:RelT w M (.pointer none) .nilPtr
 |nilIface:RelT w M .nilIface .nilIface
 |nilFunc:RelT w M .nilFunc .nilFunc
 |nilMap:RelT w M (.map none) .nilMap
 |iface (t:Nat) (v:Value) (x:T) (h:RelT w M v x):RelT w M (.iface t v) (.iface t x)
 |func (fn:Fn) (v1 v2:List Value) (x1 x2:List T) (h1:v1.length=x1.length) (h2:v2.length=x2.length)
   (r1: ∀(i:Nat) v x,v1[i]?=some v->x1[i]?=some x->RelT w M v x) (r2: ∀(i:Nat) v x,v2[i]?=some v->x2[i]?=some x->RelT w M v x):
   RelT w M (.func fn v1.toArray v2.toArray) (.func fn x1 x2)
 |agg (vs:List Value) (xs:List T) (h:vs.length=xs.length) (r: ∀(i:Nat) v x,vs[i]?=some v->xs[i]?=some x->RelT w M v x):
   RelT w M (.agg vs.toArray) (.agg xs)
 |tuple (vs:List Value) (xs:List T) (h:vs.length=xs.length) (r: ∀(i:Nat) v x,vs[i]?=some v->xs[i]?=some x->RelT w M v x):
   RelT w M (.tuple vs.toArray) (.tuple xs)
def Jh (w:World) (M:Nat->Nat->Prop) (w':World) (M':Nat->Nat->Prop):Prop:=
 ∀b o v,¬M b o->w.cell? ⟨b,o,none⟩=some v-> ¬M' b o/\w'.cell? ⟨b,o,none⟩=some v
theorem RelT.mono {w w':World} {M M':Nat->Nat->Prop} (hk:Jh w M w' M') {v:Value} {x:T} (h:RelT w M v x):RelT w' M' v x:=by
 induction h with
 |undef=>exact .undef
 |bool b=>exact .bool b
 |int k n=>exact .int k n
 |str s=>exact .str s
 |sliceNil m sz=>exact .sliceNil m sz
 |sliceZ a m sz hm=>exact .sliceZ a m sz hm
 |slice b off len cap m sz es vs hl hc hf hm hp aN aU aL _ ih=>
  exact .slice b off len cap m sz es vs hl hc hf hm hp aN aU (λi x hx=>hk _ _ _ (aL i x hx).1 (aL i x hx).2) ih
 |ptr b off cs vs aU aL _ ih=>exact .ptr b off cs vs aU (λi x hx=>hk _ _ _ (aL i x hx).1 (aL i x hx).2) ih
 |nilPtr=>exact .nilPtr
 |nilIface=>exact .nilIface
 |nilFunc=>exact .nilFunc
 |nilMap=>exact .nilMap
 |iface t v x _ ih=>exact .iface t v x ih
 |func fn v1 v2 x1 x2 h1 h2 _ _ i1 i2=>exact .func fn v1 v2 x1 x2 h1 h2 i1 i2
 |agg vs xs h _ ih=>exact .agg vs xs h ih
 |tuple vs xs h _ ih=>exact .tuple vs xs h ih
inductive Rel (w:World) (g:G):Value->AV->Prop where
 |t (v:Value) (x:T) (h:RelT w g.M v x):Rel w g v (.t x)
 |top (v:Value):Rel w g v .top
 |ref (b off aA:Nat) (h:g.β b=some (some aA)):Rel w g (.pointer (some ⟨aA,off,none⟩)) (.ref b off)
 |eref (b sz k off aA:Nat) (h:g.β b=some (some aA)):Rel w g (.pointer (some ⟨aA,k*sz+off,none⟩)) (.eref b sz k off)
 |mref (b aA:Nat) (h:g.β b=some (some aA)):Rel w g (.map (some aA)) (.mref b)
 |rowNil (b sz:Nat) (a:Option Addr) (ha: ∀x:Addr,a=some x->True) (h:g.β b=some none):Rel w g (.slice a 0 0) (.row b sz 0 0)
 |row (b sz lo len aA o cap e n:Nat) (h:g.β b=some (some aA)) (hs:w.shape? aA=some (e,n)) (ho:o=lo*sz\/cap=0) (hl:len<=cap) (hn:(lo+cap)*sz<=n):
   Rel w g (.slice (some ⟨aA,o,none⟩) len cap) (.row b sz lo len)
 |iface (t:Nat) (v:Value) (x:AV) (h:Rel w g v x):Rel w g (.iface t v) (.iface t x)
 |func (fn:Fn) (v1 v2:List Value) (x1 x2:List AV) (h1:v1.length=x1.length) (h2:v2.length=x2.length)
   (r1: ∀(i:Nat) v x,v1[i]?=some v->x1[i]?=some x->Rel w g v x) (r2: ∀(i:Nat) v x,v2[i]?=some v->x2[i]?=some x->Rel w g v x):
   Rel w g (.func fn v1.toArray v2.toArray) (.func fn x1 x2)
 |agg (vs:List Value) (xs:List AV) (h:vs.length=xs.length) (r: ∀(i:Nat) v x,vs[i]?=some v->xs[i]?=some x->Rel w g v x):
   Rel w g (.agg vs.toArray) (.agg xs)
 |tuple (vs:List Value) (xs:List AV) (h:vs.length=xs.length) (r: ∀(i:Nat) v x,vs[i]?=some v->xs[i]?=some x->Rel w g v x):
   Rel w g (.tuple vs.toArray) (.tuple xs)
theorem Rel.mono {w w':World} {g g':G} (hk:Jh w g.M w' g'.M) (hβ: ∀b p,g.β b=some p->g'.β b=some p)
  (hs: ∀b p,w.shape? b=some p->w'.shape? b=some p) {v:Value} {x:AV} (h:Rel w g v x):Rel w' g' v x:=by
 induction h with
 |t v x h=>exact .t v x (h.mono hk)
 |top v=>exact .top v
 |ref b off aA h=>exact .ref b off aA (hβ _ _ h)
 |eref b sz k off aA h=>exact .eref b sz k off aA (hβ _ _ h)
 |mref b aA h=>exact .mref b aA (hβ _ _ h)
 |rowNil b sz a ha h=>exact .rowNil b sz a ha (hβ _ _ h)
 |row b sz lo len aA o cap e n h dS ho hl hn=>exact .row b sz lo len aA o cap e n (hβ _ _ h) (hs _ _ dS) ho hl hn
 |iface t v x _ ih=>exact .iface t v x ih
 |func fn v1 v2 x1 x2 h1 h2 _ _ i1 i2=>exact .func fn v1 v2 x1 x2 h1 h2 i1 i2
 |agg vs xs h _ ih=>exact .agg vs xs h ih
 |tuple vs xs h _ ih=>exact .tuple vs xs h ih
mutual
def AV.has (b:Nat):AV->Bool
 |.t _=>false
 |.top=>false
 |.ref c _=>Nat.beq c b
 |.eref c _ _ _=>Nat.beq c b
 |.mref c=>Nat.beq c b
 |.row c _ _ _=>Nat.beq c b
 |.iface _ x=>x.has b
 |.func _ f c=>KJ b f||KJ b c
 |.agg cs=>KJ b cs
 |.tuple cs=>KJ b cs
def KJ (b:Nat):List AV->Bool
 |[]=>false
 |x::r=>x.has b||KJ b r
end
theorem JA {b:Nat}: ∀{l:List AV},KJ b l=false-> ∀(i:Nat) x,l[i]?=some x->x.has b=false
 |[],_,i,x,h=>by simp at h
 |y::r,hf,i,x,h=>by
  simp only[KJ,A7n]at hf
  cases i with
  |zero=>simp at h;subst h;exact hf.1
  |succ i=>simp at h;exact JA hf.2 i x h
theorem Fu {a b:Nat} (h:Nat.beq a b=false):a≠b:=by
 intro e;subst e;simp at h
theorem Rel.mono_but {w w':World} {g g':G} (c:Nat) (hk:Jh w g.M w' g'.M) (hβ: ∀b p,b≠c->g.β b=some p->g'.β b=some p)
  (hs: ∀b p,w.shape? b=some p->w'.shape? b=some p) {v:Value} {x:AV} (h:Rel w g v x):x.has c=false->Rel w' g' v x:=by
 induction h with
 |t v x h=>exact λ_=>.t v x (h.mono hk)
 |top v=>exact λ_=>.top v
 |ref b off aA h=>intro hh;simp only[AV.has]at hh;exact .ref b off aA (hβ _ _ (Fu hh) h)
 |eref b sz k off aA h=>intro hh;simp only[AV.has]at hh;exact .eref b sz k off aA (hβ _ _ (Fu hh) h)
 |mref b aA h=>intro hh;simp only[AV.has]at hh;exact .mref b aA (hβ _ _ (Fu hh) h)
 |rowNil b sz a ha h=>intro hh;simp only[AV.has]at hh;exact .rowNil b sz a ha (hβ _ _ (Fu hh) h)
 |row b sz lo len aA o cap e n h dS ho hl hn=>
  intro hh;simp only[AV.has]at hh;exact .row b sz lo len aA o cap e n (hβ _ _ (Fu hh) h) (hs _ _ dS) ho hl hn
 |iface t v x _ ih=>intro hh;simp only[AV.has]at hh;exact .iface t v x (ih hh)
 |func fn v1 v2 x1 x2 h1 h2 _ _ i1 i2=>
  intro hh;simp only[AV.has,A7n]at hh;exact .func fn v1 v2 x1 x2 h1 h2 (λi v x a b=>i1 i v x a b (JA hh.1 i x b)) (λi v x a b=>i2 i v x a b (JA hh.2 i x b))
 |agg vs xs h _ ih=>intro hh;simp only[AV.has]at hh;exact .agg vs xs h (λi v x a b=>ih i v x a b (JA hh i x b))
 |tuple vs xs h _ ih=>intro hh;simp only[AV.has]at hh;exact .tuple vs xs h (λi v x a b=>ih i v x a b (JA hh i x b))
theorem Og {α:Type} (sz:Nat): ∀(es:List (List α)),(∀e∈es,e.length=sz)-> ∀(i:Nat) e,es[i]?=some e-> ∀(j:Nat) x,e[j]?=some x->
  es.flatten[i*sz+j]?=some x
 |[],_,i,e,h,_,_,_=>by simp at h
 |a::es,hs,i,e,h,j,x,hx=>by
  cases i with
  |zero=>
   simp at h;subst h
   have hj:j<a.length:=by
    rcases A4i j a.length with h|h
    ·exact h
    ·simp[A5w h]at hx
   simp[Abh hj,hx]
  |succ i=>
   simp at h;have ha:=hs a Ac;have ih:=Og sz es (λe he=>hs e (by simp[he])) i e h j x hx;rw[A5g,Aez (by rw[ha,A58];omega)];rw[show(i+1)*sz+j-a.length=i*sz+j by rw[ha,A58];omega];exact ih
theorem Cx {α:Type} (sz:Nat): ∀(es:List (List α)),(∀e∈es,e.length=sz)->es.flatten.length=es.length*sz
 |[],_=>Ac
 |a::es,hs=>by
  have ha:=hs a Ac;have ih:=Cx sz es (λe he=>hs e (by simp[he]));rw[A5g,Xp,ih,ha,A2z,A58];omega
def Fh (w:World) (g:G) (b:Nat):Blk->Prop
 |.cells cs=> ∃aA vs e,g.β b=some (some aA)/\g.own aA/\w.heap[aA]?=some (.cells vs e (0,0))/\vs.size=cs.length/\
   ∀(i:Nat) v x,vs[i]?=some v->cs[i]?=some x->Rel w g v x
 |.grow sz es=>(∀e∈es,e.length=sz)/\((g.β b=some none/\es=[])\/ ∃aA vs e,g.β b=some (some aA)/\g.own aA/\w.heap[aA]?=some (.cells vs e (0,0))/\
   es.flatten.length<=vs.size/\ ∀(i:Nat) v x,vs[i]?=some v->es.flatten[i]?=some x->CV x=true/\RelT w g.M v x)
 |.rights _=>g.β b=some none
 |.loop l st pe ps asg bd n env=> ∃r:Loop,g.β b=some (some l)/\g.own l/\w.heap[l]?=some (.loop r)/\(r.state=st/\r.pending=pe/\r.params=ps/\r.assign=asg/\r.body=bd)/\n<=r.tmps.size/\
   ∀t x,look env t=some x->Rel w g (r.tmps.getD t undef) x
 |.mp ks xs=> ∃aA es clk,g.β b=some (some aA)/\g.own aA/\w.heap[aA]?=some (.map es clk)/\es.size=ks.length/\es.size=xs.length/\(∀(i:Nat) e x,es[i]?=some e->ks[i]?=some x->RelT w g.M e.key x)/\ ∀(i:Nat) e x,es[i]?=some e->xs[i]?=some x->Rel w g e.val x
def Tf:List (Nat×Nat×Value):=[(0,0,.iface 233 (.agg #[.pointer (some ⟨4,98,none⟩)]))]
structure SpOk (w:World) (g:G) (σ:St):Prop where
 lt: ∀aA e,g.sp aA=some e->aA<w.heap.size
 bs: ∀c aA,g.β c=some (some aA)->g.sp aA=none
 one: ∀b b' L L' aA e e',look σ b=some (.rights L)->look σ b'=some (.rights L')->(aA,e)∈L->(aA,e')∈L'->b=b'
 ok: ∀b L,look σ b=some (.rights L)->(L.map Prod.fst).Nodup/\ ∀p∈L,g.own p.1/\g.sp p.1=some p.2.2/\ ∃vs ty,w.heap[p.1]?=some (.cells vs ty (0,0))/\vs.size=p.2.1/\p.2.2<=p.2.1
structure Inv (w:World) (g:G) (σ:St):Prop where
 ok: ∀b B,look σ b=some B->Fh w g b B
 dom: ∀b,(look σ b).isSome=(g.β b).isSome
 inj: ∀b b' aA,g.β b=some (some aA)->g.β b'=some (some aA)->b=b'
 lt: ∀aA,(g.own aA\/ ∃o,g.oth aA o)->aA<w.heap.size
 bx: ∀b,g.bx b->b % 2=1/\ ∃cs,look σ b=some (.cells cs)
 dis: ∀aA o,g.own aA-> ¬g.oth aA o
 im: ∀p∈Tf,¬g.M p.1 p.2.1/\w.cell? ⟨p.1,p.2.1,none⟩=some p.2.2
 lo:g.lo<=w.heap.size
 sx:SpOk w g σ
theorem Inv.im_of {w w':World} {g g':G} {σ:St} (h:Inv w g σ) (hk:Jh w g.M w' g'.M): ∀p∈Tf,¬g'.M p.1 p.2.1/\w'.cell? ⟨p.1,p.2.1,none⟩=some p.2.2:=λp hp=>hk _ _ _ (h.im p hp).1 (h.im p hp).2
def AQ (w:World) (g:G) (a:Act) (env:A2):Prop:= ∀t x,look env t=some x->Rel w g (a.tmps.getD t undef) x
def Acp (w w':World):Prop:=w'.os=w.os/\w'.output=w.output
structure Ext (w:World) (g:G) (w':World) (g':G):Prop where
 size:w.heap.size<=w'.heap.size
 keep: ∀aA,aA<w.heap.size-> ¬g.own aA->w'.heap[aA]?=w.heap[aA]?
 own: ∀aA,aA<w.heap.size->g'.own aA->g.own aA
 oth: ∀aA o,g'.oth aA o↔g.oth aA o
 shape: ∀b p,w.shape? b=some p->w'.shape? b=some p
 bx: ∀b,g.bx b->g'.bx b/\g'.β b=g.β b
 lo:g'.lo=g.lo/\Acp w w'
 sp: ∀aA e,aA<w.heap.size->g.own aA->g.sp aA=some e->(∀o,o<e->w'.cell? ⟨aA,o,none⟩=w.cell? ⟨aA,o,none⟩)/\(g'.own aA-> ∃e',g'.sp aA=some e'/\e<=e')
theorem Ar4 {w:World} {b o:Nat} {s:Option Nat} {v:Value} (h:w.cell? ⟨b,o,s⟩=some v):b<w.heap.size:=World.block_lt_of_cell? _ _ h
theorem Ch {w w':World} {b:Nat} (h:w'.heap[b]?=w.heap[b]?) (o:Nat) (s:Option Nat):w'.cell? ⟨b,o,s⟩=w.cell? ⟨b,o,s⟩:=by
 simp[World.cell?,h]
theorem Hu {w w':World} {g g':G} (hs: ∀aA e,aA<w.heap.size->g.own aA->g.sp aA=some e->g'.sp aA=some e) (hh: ∀aA e,aA<w.heap.size->g.own aA->g.sp aA=some e->w'.heap[aA]?=w.heap[aA]?):
  ∀aA e,aA<w.heap.size->g.own aA->g.sp aA=some e->(∀o,o<e->w'.cell? ⟨aA,o,none⟩=w.cell? ⟨aA,o,none⟩)/\(g'.own aA-> ∃e',g'.sp aA=some e'/\e<=e'):=
 λaA e hb ho h=>⟨λo _=>Ch (hh aA e hb ho h) o none,λ_=>⟨e,hs aA e hb ho h,WW _⟩⟩
theorem SpOk.mono {w w':World} {g g':G} {σ σ':St} (h:SpOk w g σ) (hz:w.heap.size<=w'.heap.size) (hs:g'.sp=g.sp) (ho: ∀aA e,g.sp aA=some e->g.own aA->g'.own aA)
  (hh: ∀aA e,g.sp aA=some e->g.own aA->(∀c,g.β c≠some (some aA))->w'.heap[aA]?=w.heap[aA]?) (hβ: ∀c aA,g'.β c=some (some aA)->(∃c',g.β c'=some (some aA))\/g.sp aA=none)
  (hσ: ∀b L,look σ' b=some (.rights L)->look σ b=some (.rights L)):SpOk w' g' σ' where
 lt aA e he:=A4y (h.lt aA e (by rw[<-hs];exact he)) hz
 bs c aA hc:=by
  rw[hs];rcases hβ c aA hc with⟨c',h'⟩|h'
  ·exact h.bs c' aA h'
  ·exact h'
 one b b' L L' aA e e' h1 h2:=h.one b b' L L' aA e e' (hσ _ _ h1) (hσ _ _ h2)
 ok b L hL:=by
  obtain⟨h1,h2⟩:=h.ok b L (hσ _ _ hL);refine⟨h1,λp hp=>?_⟩;obtain⟨k1,k2,vs,ty,k3,k4⟩:=h2 p hp;refine⟨ho _ _ k2 k1,by rw[hs];exact k2,vs,ty,?_,k4⟩;rw[hh _ _ k2 k1 (λc hc=>by have:=h.bs c _ hc;rw[k2]at this;cases this)];exact k3
theorem SpOk.empty {w:World} {g:G} (hl: ∀aA e,g.sp aA=some e->aA<w.heap.size) (hb: ∀c,g.β c=none):SpOk w g []:=
 ⟨hl,λc aA h=>(by rw[hb]at h;cases h),λb b' L L' aA e e' h=>(by simp[look]at h),λb L h=>(by simp[look]at h)⟩
theorem A3h (w:World) (g:G):Ext w g w g:=⟨WW _,λ_ _ _=>rfl,λ_ _ h=>h,λ_ _=>A6h,λ_ _ h=>h,λ_ h=>⟨h,rfl⟩,⟨rfl,rfl,rfl⟩,Hu (λ_ _ _ _ h=>h) (λ_ _ _ _ _=>rfl)⟩
theorem Ext.trans {w w1 w2:World} {g g1 g2:G} (h:Ext w g w1 g1) (h':Ext w1 g1 w2 g2):Ext w g w2 g2 where
 size:=A47 h.size h'.size
 keep aA hb ho:=by
  rw[h'.keep aA (A4y hb h.size) (λhc=>ho (h.own aA hb hc)),h.keep aA hb ho]
 own aA hb ho:=h.own aA hb (h'.own aA (A4y hb h.size) ho)
 oth aA o:=(h'.oth aA o).trans (h.oth aA o)
 shape b p hp:=h'.shape b p (h.shape b p hp)
 bx b hb:=⟨(h'.bx b (h.bx b hb).1).1,by rw[(h'.bx b (h.bx b hb).1).2,(h.bx b hb).2]⟩
 lo:=⟨h'.lo.1.trans h.lo.1,h'.lo.2.1.trans h.lo.2.1,h'.lo.2.2.trans h.lo.2.2⟩
 sp aA e hb ho he:=by
  obtain⟨a1,a2⟩:=h.sp aA e hb ho he;by_cases h1:g1.own aA
  ·obtain⟨e1,b1,b2⟩:=a2 h1;obtain⟨c1,c2⟩:=h'.sp aA e1 (A4y hb h.size) h1 b1;refine⟨λo aC=>by rw[c1 o (A4y aC b2),a1 o aC],λh2=>?_⟩;obtain⟨e2,d1,d2⟩:=c2 h2;exact⟨e2,d1,A47 b2 d2⟩
  ·refine⟨λo aC=>?_,λh2=>absurd (h'.own aA (A4y hb h.size) h2) h1⟩;rw[Ch (h'.keep aA (A4y hb h.size) h1),a1 o aC]
theorem Ext.keeps {w w':World} {g g':G} (h:Ext w g w' g'):Jh w g.M w' g'.M:=by
 intro b o v hm hc;have hb:=Ar4 hc;by_cases ho:g.own b
 ·have eU: ∃e,g.sp b=some e/\o<e:=by
   cases hs:g.sp b with
   |none=>exact absurd (.inl ⟨ho,λe he=>by rw[hs]at he;cases he⟩) hm
   |some e=>exact⟨e,rfl,Nat.lt_of_not_le λcJ=>hm (.inl ⟨ho,λe' k8=>by rw[hs]at k8;cases k8;exact cJ⟩)⟩
  obtain⟨e,he,aC⟩:=eU;obtain⟨a1,a2⟩:=h.sp b e hb ho he;refine⟨?_,by rw[a1 o aC];exact hc⟩;rintro(⟨h1,h2⟩|h1)
  ·obtain⟨e',b1,b2⟩:=a2 h1;have:=h2 e' b1;omega
  ·exact hm (.inr ((h.oth b o).1 h1))
 ·refine⟨?_,?_⟩
  ·rintro(⟨h1,_⟩|h1)
   ·exact ho (h.own b hb h1)
   ·exact hm (.inr ((h.oth b o).1 h1))
  ·rw[Ch (h.keep b hb ho)];exact hc
end Go.Am
namespace Go.Am
inductive TK where
 |int (k:IntKind)
 |bool
 |string
 |slice (e:Nat)
 |ptr (e:Nat)
 |struct (fs:List (Nat×Nat))
 |array (n e:Nat)
 |iface
 |func
 |map (k e:Nat)
 |other
def TK.agg:TK->Bool
 |.struct _=>true
 |.array _ _=>true
 |_=>false
structure TI where
 size:Nat
 bytes:Nat
 zero:List T
 kind:TK
abbrev TE:=List (Nat×TI)
def Dp:TypeDesc->TK
 |.int k=>.int k
 |.bool=>.bool
 |.string=>.string
 |.slice e=>.slice e
 |.pointer e=>.ptr e
 |.struct fs=>.struct (fs.toList.map λf=>(f.offset,f.type))
 |.array n e=>.array n e
 |.interface _=>.iface
 |.func _ _ _=>.func
 |.map k e=>.map k e
 |_=>.other
def ZB:T->Value
 |.bool b=>.bool b
 |.int k n=>.int k n
 |.str s=>.string ⟨s.toArray⟩
 |.slice _ _ _=>.slice none 0 0
 |.nilPtr=>.pointer none
 |.nilIface=>.nilIface
 |.nilFunc=>.nilFunc
 |.nilMap=>.map none
 |_=>undef
def GV:T->Bool
 |.bool _=>true
 |.int _ _=>true
 |.str _=>true
 |.slice _ _ []=>true
 |.nilPtr=>true
 |.nilIface=>true
 |.nilFunc=>true
 |.nilMap=>true
 |_=>false
theorem MF {w:World} {M:Nat->Nat->Prop} {x:T} (h:GV x=true):RelT w M (ZB x) x:=by
 cases x<;>simp[GV]at h<;>try constructor
 case slice m sz es=>cases es<;>simp[GV]at h;constructor
def BJ (ti:TI):Value:=bif ti.kind.agg then .agg (ti.zero.map ZB).toArray else ZB (ti.zero.headD .undef)
def Amr (P:Program) (t:Nat):Bool:=match P.underlying t with
 |some (.struct fs)=> !P.stoodInHeld t&&fs.toList.all (λf=>f.name != "_")
 |_=>true
def Ys:TK->Bool
 |.struct _=>true
 |_=>false
structure TeOk1 (P:Program) (t:Nat) (ti:TI):Prop where
 info:(P.info? t).map (λi=>(i.size,i.bytes,i.zero))=some (ti.size,ti.bytes,some (BJ ti))
 und:(P.underlying t).map Dp=some ti.kind
 const:ti.zero.all GV=true
 len:ti.zero.length=ti.size
 one:ti.kind.agg=false->ti.size=1
 eqs:Ys ti.kind=true->Amr P t=true
def Dr (P:Program) (te:TE):Prop:= ∀t ti,look te t=some ti->TeOk1 P t ti
section
variable {P:Program} {t:Nat} {ti:TI} (h:TeOk1 P t ti) (w:World)
include h
theorem TeOk1.info': ∃i,P.info? t=some i/\i.size=ti.size/\i.bytes=ti.bytes/\i.zero=some (BJ ti):=by
 have:=h.info
 cases hi:P.info? t with
 |none=>simp[hi]at this
 |some i=>simp[hi]at this;exact⟨i,rfl,this.1,this.2.1,this.2.2⟩
theorem TeOk1.und': ∃d,P.underlying t=some d/\Dp d=ti.kind:=by
 have:=h.und
 cases hi:P.underlying t with
 |none=>simp[hi]at this
 |some d=>simp[hi]at this;exact⟨d,rfl,this⟩
theorem N5: ∃i,(typeInfo t).run P w=.ok i w/\i.size=ti.size/\i.bytes=ti.bytes/\i.zero=some (BJ ti):=by
 obtain⟨i,hi,h1⟩:=h.info';exact⟨i,by simp[typeInfo,program,Sem.run,hi],h1⟩
theorem run_underlying: ∃d,(underlying t).run P w=.ok d w/\Dp d=ti.kind:=by
 obtain⟨d,hd,h1⟩:=h.und';exact⟨d,by simp[underlying,program,Sem.run,hd],h1⟩
theorem C0:(sizeOf t).run P w=.ok ti.size w:=by
 obtain⟨i,hi,h1,_⟩:=N5 h w;simp[sizeOf,hi,h1]
theorem DI:(zeroValue t).run P w=.ok (BJ ti) w:=by
 obtain⟨i,hi,_,_,h1⟩:=N5 h w;simp[zeroValue,hi,h1]
theorem Ur:(isAgg t).run P w=.ok ti.kind.agg w:=by
 obtain⟨d,hd,h1⟩:=run_underlying h w;simp only[isAgg,Ake,hd,Y5,<-h1];cases d<;>simp[Dp,TK.agg]
theorem G5 {e:Nat} (hk:ti.kind=.slice e):(underlying t).run P w=.ok (.slice e) w:=by
 obtain⟨d,hd,h1⟩:=run_underlying h w;rw[hk]at h1;cases d<;>simp[Dp]at h1
 subst h1;exact hd
theorem It (hk:ti.kind=.string):(underlying t).run P w=.ok .string w:=by
 obtain⟨d,hd,h1⟩:=run_underlying h w;rw[hk]at h1;cases d<;>simp[Dp]at h1
 exact hd
theorem Ac8 {k:IntKind} (hk:ti.kind=.int k):(underlying t).run P w=.ok (.int k) w:=by
 obtain⟨d,hd,h1⟩:=run_underlying h w;rw[hk]at h1;cases d<;>simp[Dp]at h1
 subst h1;exact hd
theorem WL (hk:ti.kind=.bool):(underlying t).run P w=.ok .bool w:=by
 obtain⟨d,hd,h1⟩:=run_underlying h w;rw[hk]at h1;cases d<;>simp[Dp]at h1
 exact hd
theorem Vw {e:Nat} (hk:ti.kind=.ptr e):(underlying t).run P w=.ok (.pointer e) w:=by
 obtain⟨d,hd,h1⟩:=run_underlying h w;rw[hk]at h1;cases d<;>simp[Dp]at h1
 subst h1;exact hd
theorem Ic {n e:Nat} (hk:ti.kind=.array n e):(underlying t).run P w=.ok (.array n e) w:=by
 obtain⟨d,hd,h1⟩:=run_underlying h w;rw[hk]at h1;cases d<;>simp[Dp]at h1
 obtain⟨rfl,rfl⟩:=h1;exact hd
theorem O2 (hk:ti.kind=.iface): ∃ms,(underlying t).run P w=.ok (.interface ms) w:=by
 obtain⟨d,hd,h1⟩:=run_underlying h w;rw[hk]at h1;cases d<;>simp[Dp]at h1
 exact⟨_,hd⟩
theorem JP {fs:List (Nat×Nat)} (hk:ti.kind=.struct fs): ∃gs,(underlying t).run P w=.ok (.struct gs) w/\gs.toList.map (λf=>(f.offset,f.type))=fs:=by
 obtain⟨d,hd,h1⟩:=run_underlying h w;rw[hk]at h1;cases d<;>simp[Dp]at h1
 exact⟨_,hd,h1⟩
end
def Acb:Value->Option T
 |.bool b=>some (.bool b)
 |.int k n=>some (.int k n)
 |.string s=>some (.str s.data.toList)
 |.slice none 0 0=>some (.slice .nil 0 [])
 |.pointer none=>some .nilPtr
 |.nilIface=>some .nilIface
 |.nilFunc=>some .nilFunc
 |.map none=>some .nilMap
 |_=>none
theorem X3 {w:World} {M:Nat->Nat->Prop} {v:Value} {x:T} (h:Acb v=some x):RelT w M v x:=by
 unfold Acb at h;split at h<;>simp at h<;>subst h<;>constructor
def ev (env:A2):Operand->Option AV
 |.tmp t=>look env t
 |.const v=>match Acb v with
  |some x=>some (.t x)
  |none=>none
 |.func f=>some (.t (.func (.func f) [] []))
 |.global _=>none
theorem AF {w:World} {g:G} {a:Act} {env:A2} (he:AQ w g a env) {x:Operand} {y:AV} (h:ev env x=some y):Rel w g (a.eval x) y:=by
 cases x with
 |tmp t=>exact he t y h
 |const v=>
  simp only[ev]at h;split at h<;>simp at h
  rename_i z hz;subst h;exact .t _ _ (X3 hz)
 |func f=>
  simp only[ev,A26]at h;subst h;exact .t _ _ (.func _ [] [] [] [] rfl rfl Ac Ac)
 |global g=>simp[ev]at h
def Q3 (F:Fence):Prop:=F=Fence.wide\/ ∃l,F=Fence.wide.inRound l
theorem Q3.fn {F:Fence} (h:Q3 F) (f:FuncId):F.fn f:=by
 rcases h with rfl|⟨l,rfl⟩<;>exact trivial
theorem Q3.depth {F:Fence} (h:Q3 F) {p:Prop}:F.depth.isSome=true->p:=by
 rcases h with rfl|⟨l,rfl⟩<;>intro hd<;>simp[Fence.wide]at hd
theorem Q3.calls {F:Fence} (h:Q3 F) {n:Nat} {P:Program} {f:FuncId} {args:Array Value} {w:World} {R:Ending->World->Prop} (hc:Calls P f args w R):CallsIn F n P f args w R:=by
 have h0:CallsIn Fence.wide n P f args w R:=callsIn_wide.2 hc;rcases h with rfl|⟨l,rfl⟩
 ·exact h0
 ·exact h0.inRound l
theorem P4 {P:Program} {ρ:Operand->Value} {o:Oper} {w w':World} {x:Next} (h:(execOp ρ o).run P w=.ok x w') (hx: ∀d,x≠ .defer d): ∀c,o.op≠ .defer c:=by
 intro c hc;simp only[execOp,hc,Ake]at h
 cases hr:(resolve ρ c o.type).run P w with
 |ok d w1=>
  rw[hr]at h;simp only[A4t,Y5,Result.ok.injEq]at h;exact hx d h.1.symm
 |halt y w1=>rw[hr]at h;cases h
def BN (P:Program) (o:Oper) (a:Act) (w:World) (R:Value->World->Prop):Prop:=
 ∀(F:Fence),Q3 F-> ∀(next:Act->World->Prop) (Q:Exit->Act->World->Prop),(∀v w',R v w'->next (a.put o.dst v) w')->o.wpIn F 0 P a w next Q
theorem BN.value {P:Program} {o:Oper} {a:Act} {w w':World} {R:Value->World->Prop} {v:Value} (h:(execOp a.eval o).run P w=.ok (.value v) w') (hr:R v w'):
  BN P o a w R:=λF hF next Q hn=>by
 refine⟨λf _=>hF.fn f,?_⟩;rw[A8u _ _ _ (P4 h (λd e=>by cases e)),h];exact hn v w' hr
theorem BN.skip {P:Program} {o:Oper} {a:Act} {w w':World} {R:Value->World->Prop} (h:(execOp a.eval o).run P w=.ok .skip w') (hr:R undef w'):
  BN P o a w R:=λF hF next Q hn=>by
 refine⟨λf _=>hF.fn f,?_⟩;rw[A8u _ _ _ (P4 h (λd e=>by cases e)),h];exact hn undef w' hr
theorem BN.enter {P:Program} {o:Oper} {a:Act} {w w':World} {R:Value->World->Prop} {f:FuncId} {args:Array Value}
  (h:(execOp a.eval o).run P w=.ok (.enter f args) w') (hr:Calls P f args w' λe w''=> ∃v,e=.returned v/\R v w''):
  BN P o a w R:=λF hF next Q hn=>by
 refine⟨λf _=>hF.fn f,?_⟩;rw[A8u _ _ _ (P4 h (λd e=>by cases e)),h];exact⟨hF.depth,(hF.calls hr).mono λe w'' ⟨v,he,hv⟩=>by subst he;exact hn v w'' hv⟩
def W7 (op:BinOp) (k:IntKind) (a b:Int):Option T:=
 match op with
 |.add=>some (.int k (k.wrap (a+b)))
 |.sub=>some (.int k (k.wrap (a-b)))
 |.mul=>some (.int k (k.wrap (a*b)))
 |.quo=>if b=0 then none else some (.int k (k.wrap (a.tdiv b)))
 |.rem=>if b=0 then none else some (.int k (a.tmod b))
 |.and=>some (.int k (k.wrap (BitVec.ofInt k.bits a&&&BitVec.ofInt k.bits b).toNat))
 |.or=>some (.int k (k.wrap (BitVec.ofInt k.bits a|||BitVec.ofInt k.bits b).toNat))
 |.eql=>some (.bool (a==b))
 |.neq=>some (.bool (a !=b))
 |.lss=>some (.bool (decide (a<b)))
 |.leq=>some (.bool (decide (a<=b)))
 |.gtr=>some (.bool (decide (b<a)))
 |.geq=>some (.bool (decide (b<=a)))
 |_=>none
def V6 (op:BinOp) (k:IntKind) (a b:Int):Option T:=
 match op with
 |.shl=>if b<0 then none else some (.int k (k.wrap (a*2^(min b.toNat k.bits))))
 |.shr=>if b<0 then none else some (.int k (a.fdiv (2^(min b.toNat k.bits))))
 |_=>none
def LW:BinOp->Bool
 |.shl=>true
 |.shr=>true
 |_=>false
def Ov:List UInt8->List UInt8->Bool:=Op.bytesLess
def SW (op:BinOp) (a b:List UInt8):Option T:=
 match op with
 |.add=>if a.length+b.length<9223372036854775808 then some (.str (a++b))else none
 |.eql=>some (.bool (a==b))
 |.neq=>some (.bool (!(a==b)))
 |.lss=>some (.bool (Ov a b))
 |.leq=>some (.bool (Ov a b||a==b))
 |.gtr=>some (.bool (!(Ov a b||a==b)))
 |.geq=>some (.bool (!Ov a b))
 |_=>none
def Fr:Operand->Bool
 |.const _=>true
 |_=>false
def Q6 (op:BinOp) (r:Bool):Option T:=
 match op with
 |.eql=>some (.bool r)
 |.neq=>some (.bool (!r))
 |_=>none
end Go.Am
namespace Go.Am
def YL (env:A2):List Operand->Option (List AV)
 |[]=>some []
 |x::r=>match ev env x with
  |some y=>match YL env r with
   |some ys=>some (y::ys)
   |none=>none
  |none=>none
def allT:List AV->Option (List T)
 |[]=>some []
 |.t x::r=>match allT r with
  |some xs=>some (x::xs)
  |none=>none
 |_::_=>none
def An0 (te:TE) (op:BinOp) (t:Nat) (cst:Bool) (p q:AV):Option AV:=
 match p,q with
 |.t (.int k a),.t (.int k' b)=>
  match LW op with
  |true=>match V6 op k a b with
   |some r=>some (.t r)
   |none=>none
  |false=>if k=k' then(match W7 op k a b with
   |some r=>some (.t r)
   |none=>none)else none
 |.t (.str a),.t (.str b)=>match SW op a b with
  |some r=>some (.t r)
  |none=>none
 |.t (.bool a),.t (.bool b)=>match look te t with
  |some ⟨_,_,_,.bool⟩=>(match Q6 op (a==b)with
   |some r=>some (.t r)
   |none=>none)
  |_=>none
 |.t .nilIface,.t .nilIface=>match look te t,cst with
  |some ⟨_,_,_,.iface⟩,true=>(match Q6 op true with
   |some r=>some (.t r)
   |none=>none)
  |_,_=>none
 |.t (.iface _ _),.t .nilIface=>match look te t with
  |some ⟨_,_,_,.iface⟩=>(match Q6 op false with
   |some r=>some (.t r)
   |none=>none)
  |_=>none
 |.t (.slice m _ es),.t (.slice .nil _ [])=>match look te t with
  |some ⟨_,_,_,.slice _⟩=>(match m,es with
   |.nil,_=>(match Q6 op true with
    |some r=>some (.t r)
    |none=>none)
   |_,_::_=>(match Q6 op false with
    |some r=>some (.t r)
    |none=>none)
   |_,[]=>none)
  |_=>none
 |.iface _ _,.t .nilIface=>match look te t with
  |some ⟨_,_,_,.iface⟩=>(match Q6 op false with
   |some r=>some (.t r)
   |none=>none)
  |_=>none
 |.ref _ _,.t .nilPtr=>match look te t with
  |some ⟨_,_,_,.ptr _⟩=>(match Q6 op false with
   |some r=>some (.t r)
   |none=>none)
  |_=>none
 |.t (.ptr _),.t .nilPtr=>match look te t with
  |some ⟨_,_,_,.ptr _⟩=>(match Q6 op false with
   |some r=>some (.t r)
   |none=>none)
  |_=>none
 |.t .nilPtr,.t .nilPtr=>match look te t with
  |some ⟨_,_,_,.ptr _⟩=>(match Q6 op true with
   |some r=>some (.t r)
   |none=>none)
  |_=>none
 |_,_=>none
def F9 {α:Type}:Nat->List α->Option (List α)
 |0,_=>some []
 |_+1,[]=>none
 |n+1,x::r=>match F9 n r with
  |some ys=>some (x::ys)
  |none=>none
def U2 (te:TE) (t off:Nat) (cs:List AV):Option AV:=
 match look te t with
 |some ti=>match ti.kind.agg with
  |true=>match F9 ti.size (cs.drop off)with
   |some ys=>some (.agg ys)
   |none=>none
  |false=>cs[off]?
 |none=>none
def ZP (f:Nat->AV->AV->Option Bool) (te:TE) (xs ys:List AV):List (Nat×Nat)->Option Bool
 |[]=>some true
 |(off,ft)::r=>match U2 te ft off xs with
  |some p=>match U2 te ft off ys with
   |some q=>match f ft p q with
    |some b=>match ZP f te xs ys r with
     |some b'=>some (b&&b')
     |none=>none
    |none=>none
   |none=>none
  |none=>none
def ZQ (te:TE):Nat->Nat->AV->AV->Option Bool
 |0,_,_,_=>none
 |d+1,t,p,q=>match look te t with
  |some ⟨_,_,_,.int _⟩=>(match p,q with
   |.t (.int k a),.t (.int k' b)=>if k=k' then some (a==b)else none
   |_,_=>none)
  |some ⟨_,_,_,.bool⟩=>(match p,q with
   |.t (.bool a),.t (.bool b)=>some (a==b)
   |_,_=>none)
  |some ⟨_,_,_,.string⟩=>(match p,q with
   |.t (.str a),.t (.str b)=>some (a==b)
   |_,_=>none)
  |some ⟨_,_,_,.struct fs⟩=>(match p,q with
   |.agg xs,.agg ys=>ZP (ZQ te d) te xs ys fs
   |_,_=>none)
  |_=>none
def Zm (te:TE) (op:BinOp) (t:Nat) (cst:Bool) (p q:AV):Option AV:=
 match p with
 |.agg xs=>(match q with
  |.agg ys=>(match ZQ te 8 t (.agg xs) (.agg ys)with
   |some b=>(match Q6 op b with
    |some r=>some (.t r)
    |none=>none)
   |none=>none)
  |_=>none)
 |p=>An0 te op t cst p q
def Ame (te:TE) (t i:Nat):Option (Nat×Nat):=
 match look te t with
 |some ⟨_,_,_,.struct fs⟩=>fs[i]?
 |_=>none
def IC (te:TE) (t i:Nat) (x:AV):Option AV:=
 match Ame te t i with
 |some (off,ft)=>match look te ft with
  |some fi=>match fi.size with
   |0=>none
   |_+1=>match x with
    |.ref b o=>some (.ref b (o+off))
    |.eref b sz k o=>some (.eref b sz k (o+off))
    |.t (.ptr cs)=>some (.t (.ptr (cs.drop off)))
    |_=>none
  |none=>none
 |none=>none
def Mp (n:Int):Option Nat:=
 match n with
 |.ofNat k=>some k
 |.negSucc _=>none
def E0 (te:TE) (t:Nat) (x i:AV):Option AV:=
 match i with
 |.t (.int _ n)=>match Mp n with
  |some k=>match look te t with
   |some ⟨_,_,_,.slice e⟩=>match look te e with
    |some ei=>match x with
     |.t (.slice _ sz es)=>if sz=ei.size then(match es[k]? with
      |some c=>some (.t (.ptr c))
      |none=>none)else none
     |.row b sz lo len=>if sz=ei.size then(if k<len then some (.eref b sz (lo+k) 0)else none)else none
     |_=>none
    |none=>none
   |some ⟨_,_,_,.array len e⟩=>match look te e with
    |some ei=>match x with
     |.ref b off=>if k<len then some (.ref b (off+k*ei.size))else none
     |_=>none
    |none=>none
   |_=>none
  |none=>none
 |_=>none
def Abm (te:TE) (t:Nat) (x i:AV):Option AV:=
 match i with
 |.t (.int _ n)=>match Mp n with
  |some k=>match look te t with
   |some ⟨_,_,_,.string⟩=>match x with
    |.t (.str s)=>match s[k]? with
     |some c=>some (.t (.int .u8 (c.toNat:Int)))
     |none=>none
    |_=>none
   |some ⟨_,_,_,.array n e⟩=>match x with
    |.agg cs=>match Nat.blt k n with
     |true=>match look te e with
      |some ei=>U2 te e (k*ei.size) cs
      |none=>none
     |false=>none
    |_=>none
   |_=>none
  |none=>none
 |_=>none
def YK (x:AV) (i:Nat):Option AV:=
 match x with
 |.tuple vs=>vs[i]?
 |_=>none
def OK (x:AV):Option AV:=
 match x with
 |.ref _ _=>some x
 |.eref _ _ _ _=>some x
 |.t (.ptr _)=>some x
 |.t (.iface _ _)=>some x
 |.iface _ _=>some x
 |.t (.func (.func _) _ _)=>some x
 |.func (.func _) _ _=>some x
 |_=>none
def MQ (te:TE) (t:Nat) (x:AV):Option AV:=
 match look te t with
 |some ti=>match ti.kind with
  |.iface=>none
  |_=>match x with
   |.t y=>some (.t (.iface t y))
   |.agg cs=>match allT cs with
    |some ys=>some (.t (.iface t (.agg ys)))
    |none=>some (.iface t x)
   |_=>some (.iface t x)
 |none=>none
def LU (fn:Fn) (f c:List AV):AV:=
 match allT f with
 |some fs=>match allT c with
  |some cs=>.t (.func fn fs cs)
  |none=>.func fn f c
 |none=>.func fn f c
def SK (te:TE) (d:Nat) (x:AV):Option AV:=
 match look te d with
 |some ⟨_,_,_,.int k⟩=>match x with
  |.t (.int _ n)=>some (.t (.int k (k.wrap n)))
  |_=>none
 |some ⟨_,_,_,.string⟩=>match x with
  |.t (.str s)=>some (.t (.str s))
  |_=>none
 |_=>none
def Rf (op:UnOp) (x:AV):Option AV:=
 match x with
 |.t (.bool b)=>match op with
  |.not=>some (.t (.bool (!b)))
  |_=>none
 |.t (.int k n)=>match op with
  |.neg=>some (.t (.int k (k.wrap (0-n))))
  |_=>none
 |_=>none
def Auu (te:TE) (t:Nat) (x:AV):Option AV:=
 match look te t with
 |some ⟨_,_,_,.string⟩=>match x with
  |.t (.str s)=>some (.t (.int .i64 (s.length:Int)))
  |_=>none
 |some ⟨_,_,_,.slice _⟩=>match x with
  |.t (.slice _ _ es)=>some (.t (.int .i64 (es.length:Int)))
  |.row _ _ _ n=>some (.t (.int .i64 (n:Int)))
  |_=>none
 |_=>none
def B4 (env:A2) (x:Option Operand) (dflt:Nat):Option Nat:=
 match x with
 |none=>some dflt
 |some o=>match ev env o with
  |some (.t (.int _ n))=>Mp n
  |_=>none
def F4 (m:SM) (b:Bool):SM:=
 match m with
 |.nil=>.nil
 |.full=>(match b with
  |true=>.full
  |false=>.any)
 |.any=>.any
 |.phys _ _=>.any
def GD (m:SM):SM:=
 match m with
 |.nil=>.nil
 |.full=>.full
 |.any=>.full
 |.phys _ _=>.full
theorem Agm (m:SM) (b:Bool) (p N:Nat):F4 m b≠ .phys p N:=by cases m<;>cases b<;>simp[F4]
theorem Agl (m:SM) (p N:Nat):GD m≠ .phys p N:=by cases m<;>simp[GD]
def Ix (te:TE) (t:Nat) (x:AV) (env:A2) (lo hi mx:Option Operand):Option AV:=
 match look te t with
 |some ⟨_,_,_,.string⟩=>match x,mx with
  |.t (.str s),none=>match B4 env hi s.length with
   |some h=>match B4 env lo 0 with
    |some l=>if h<=s.length then(if l<=h then some (.t (.str ((s.drop l).take (h-l))))else none)else none
    |none=>none
   |none=>none
  |_,_=>none
 |some ⟨_,_,_,.slice e⟩=>match look te e with
  |some ei=>match x with
   |.t (.slice m sz es)=>match B4 env hi es.length with
    |some h=>match B4 env lo 0 with
     |some l=>if sz=ei.size then(if h<=es.length then(if l<=h then(match mx with
       |none=>some (.t (.slice (F4 m (decide (h=es.length))) sz ((es.drop l).take (h-l))))
       |some _=>match hi with
        |some _=>match B4 env mx 0 with
         |some c=>if c=h then some (.t (.slice (GD m) sz ((es.drop l).take (h-l))))else none
         |none=>none
        |none=>none)else none)else none)else(match es,m with
       |[],.nil=>(match h,l with
        |0,0=>(match mx with
         |none=>some (.t (.slice .nil ei.size []))
         |some _=>(match hi,B4 env mx 0 with
          |some _,some 0=>some (.t (.slice .nil ei.size []))
          |_,_=>none))
        |_,_=>none)
       |_,_=>none)
     |none=>none
    |none=>none
   |.row b sz rl len=>match B4 env hi len with
    |some h=>match B4 env lo 0 with
     |some l=>if sz=ei.size then(if h<=len then(if l<=h then(match mx with
       |none=>some (.row b sz (rl+l) (h-l))
       |some _=>none)else none)else none)else none
     |none=>none
    |none=>none
   |_=>none
  |none=>none
 |_=>none
def Ak7 (p q:Int):Int:=if q>p then q else p
def Si (p q:Int):Int:=if q<p then q else p
def Cj (te:TE) (op:Op) (env:A2):Option AV:=
 match op with
 |.move x=>ev env x
 |.assign x=>ev env x
 |.pick c a b=>match ev env c with
  |some (.t (.bool p))=>(match p with
   |true=>ev env a
   |false=>ev env b)
  |_=>none
 |.binOp op t x y _=>match ev env x with
  |some p=>match ev env y with
   |some q=>Zm te op t (Fr x||Fr y) p q
   |none=>none
  |none=>none
 |.unOp op _ x=>match ev env x with
  |some p=>Rf op p
  |none=>none
 |.convert s d x=>match ev env x with
  |some p=>match look te s with
   |some _=>SK te d p
   |none=>none
  |none=>none
 |.makeInterface t x=>match ev env x with
  |some p=>MQ te t p
  |none=>none
 |.makeFunc fn f c=>match YL env f.toList with
  |some fs=>match YL env c.toList with
   |some cs=>some (LU fn fs cs)
   |none=>none
  |none=>none
 |.nilCheck x=>match ev env x with
  |some p=>OK p
  |none=>none
 |.fieldAddr t x i=>match ev env x with
  |some p=>IC te t i p
  |none=>none
 |.field t x i=>match ev env x with
  |some (.agg cs)=>(match Ame te t i with
   |some (off,ft)=>U2 te ft off cs
   |none=>none)
  |_=>none
 |.indexAddr t x i=>match ev env x with
  |some p=>match ev env i with
   |some q=>E0 te t p q
   |none=>none
  |none=>none
 |.index t x i=>match ev env x with
  |some p=>match ev env i with
   |some q=>Abm te t p q
   |none=>none
  |none=>none
 |.extract x i=>match ev env x with
  |some p=>YK p i
  |none=>none
 |.slice t x lo hi mx=>match ev env x with
  |some p=>Ix te t p env lo hi mx
  |none=>none
 |.call c=>match c.callee with
  |.builtin .max=>match c.args.toList with
   |[x,y]=>match ev env x with
    |some (.t (.int k p))=>(match ev env y with
     |some (.t (.int _ q))=>some (.t (.int k (Ak7 p q)))
     |_=>none)
    |_=>none
   |_=>none
  |.builtin .min=>match c.args.toList with
   |[x,y]=>match ev env x with
    |some (.t (.int k p))=>(match ev env y with
     |some (.t (.int _ q))=>some (.t (.int k (Si p q)))
     |_=>none)
    |_=>none
   |_=>none
  |.builtin .len=>match c.args.toList with
   |[x]=>match ev env x with
    |some p=>match c.argTypes.toList with
     |t::_=>Auu te t p
     |[]=>none
    |none=>none
   |_=>none
  |_=>none
 |_=>none
end Go.Am
namespace Go.Am
theorem Av {w:World} {g:G} {v:Value} {x:T} (h:Rel w g v (.t x)):RelT w g.M v x:=by
 cases h;assumption
theorem CC {w:World} {g:G} {v:Value} {k:IntKind} {n:Int} (h:Rel w g v (.t (.int k n))):v=.int k n:=by
 cases Av h;rfl
theorem Gm {w:World} {g:G} {v:Value} {b:Bool} (h:Rel w g v (.t (.bool b))):v=.bool b:=by
 cases Av h;rfl
theorem Gl {w:World} {g:G} {v:Value} {s:List UInt8} (h:Rel w g v (.t (.str s))):v=.string ⟨s.toArray⟩:=by
 cases Av h;rfl
theorem Aeu (s:List UInt8):(⟨s.toArray⟩:ByteArray).toList=s:=by
 rw[ByteArray.toList_eq]
theorem Acj {P:Program} {w:World} {op:BinOp} {t:Nat} {x y:Operand} {k:IntKind} {a b:Int} {r:T} (hs:LW op=false) (h:W7 op k a b=some r):
  ∃v,(do eqGuard op t x y (.int k a) (.int k b);binOp op t (.int k a) (.int k b):Sem Value).run P w=.ok v w/\ ∀M,RelT w M v r:=by
 have hg:(eqGuard op t x y (.int k a) (.int k b)).run P w=.ok () w:=by cases op<;>simp[eqGuard]
 simp only[Ake,hg,Y5];cases op<;>(try(simp[LW]at hs;done))<;>(try(simp[W7]at h;done))<;>simp only[W7]at h
 case quo=>
  split at h
  ·simp at h
  ·simp at h;subst h;rename_i h0;exact⟨.int k (k.wrap (a.tdiv b)),by simp[binOp,Op.intDiv,h0],λM=>.int _ _⟩
 case rem=>
  split at h
  ·simp at h
  ·simp at h;subst h;rename_i h0;exact⟨.int k (a.tmod b),by simp[binOp,Op.intDiv,h0],λM=>.int _ _⟩
 all_goals
  simp only[A26]at h;subst h;simp[binOp,Op.intArith,Op.intBits,Op.intCmp]
  intros;constructor
theorem ZM {P:Program} {w:World} {op:BinOp} {t:Nat} {x y:Operand} {k k':IntKind} {a b:Int} {r:T} (hs:LW op=true) (h:V6 op k a b=some r):
  ∃v,(do eqGuard op t x y (.int k a) (.int k' b);binOp op t (.int k a) (.int k' b):Sem Value).run P w=.ok v w/\ ∀M,RelT w M v r:=by
 have hg:(eqGuard op t x y (.int k a) (.int k' b)).run P w=.ok () w:=by cases op<;>simp[eqGuard]
 simp only[Ake,hg,Y5]
 cases op<;>simp[LW]at hs<;>simp[V6]at h<;>obtain⟨h0,h⟩:=h<;>subst h<;>
  (have h0': ¬b<0:=Aa)<;>simp[binOp,Op.shift,h0']<;>intros<;>constructor
theorem Aci {P:Program} {w:World} {op:BinOp} {t:Nat} {x y:Operand} {a b:List UInt8} {r:T} (h:SW op a b=some r):
  ∃v,(do eqGuard op t x y (.string ⟨a.toArray⟩) (.string ⟨b.toArray⟩);binOp op t (.string ⟨a.toArray⟩) (.string ⟨b.toArray⟩):Sem Value).run P w=.ok v w/\ ∀M,RelT w M v r:=by
 have hg:(eqGuard op t x y (.string ⟨a.toArray⟩) (.string ⟨b.toArray⟩)).run P w=.ok () w:=by cases op<;>simp[eqGuard]
 simp only[Ake,hg,Y5]
 have tP:(⟨a.toArray⟩:ByteArray)++(⟨b.toArray⟩:ByteArray)=⟨(a++b).toArray⟩:=by
  apply ByteArray.ext;simp
 cases op<;>(try(simp[SW]at h;done))<;>simp only[SW]at h
 case add=>
  split at h
  ·simp at h;subst h;rename_i h0;simp only[binOp,Op.stringOp]
   have hn: ¬(((ByteArray.size ⟨a.toArray⟩+ByteArray.size ⟨b.toArray⟩:Nat):Int)>IntKind.i64.max):=by
    simp[ByteArray.size,IntKind.max,IntKind.signed,IntKind.bits];omega
   rw[Ug hn];exact⟨_,rfl,λM=>by rw[tP];exact .str _⟩
  ·simp at h
 all_goals
  simp only[A26]at h;subst h;simp[binOp,Op.stringOp,Aeu,Ov]
  intros;constructor
theorem FE {w:World} {M:Nat->Nat->Prop} {op:BinOp} {b:Bool} {r:T} (h:Q6 op b=some r):(op=.eql/\RelT w M (.bool b) r)\/(op=.neq/\RelT w M (.bool (!b)) r):=by
 cases op<;>simp[Q6]at h<;>subst h
 ·exact .inl ⟨rfl,.bool _⟩
 ·exact .inr ⟨rfl,.bool _⟩
theorem UZ {P:Program} {w:World} {d t:Nat} {a b:Bool} (hu:(underlying t).run P w=.ok .bool w):(Op.equalIn (d+1) t (.bool a) (.bool b)).run P w=.ok (a==b) w:=by
 unfold Op.equalIn;simp[hu]
theorem YO {P:Program} {w:World} {d t:Nat} {ms} (hu:(underlying t).run P w=.ok (.interface ms) w):(Op.equalIn (d+1) t .nilIface .nilIface).run P w=.ok true w:=by
 unfold Op.equalIn;simp[hu]
theorem K0 {P:Program} {w:World} {d t i:Nat} {z:Value} {ms} (hu:(underlying t).run P w=.ok (.interface ms) w):(Op.equalIn (d+1) t (.iface i z) .nilIface).run P w=.ok false w:=by
 unfold Op.equalIn;simp[hu]
theorem GM {P:Program} {w:World} {t:Nat} {u v:Value} {b:Bool} (h:(Op.equalIn (9999+1) t u v).run P w=.ok b w)
  (h1:binOp .eql t u v=do pure (.bool (<-Op.equal t u v))):(binOp .eql t u v).run P w=.ok (.bool b) w:=by
 rw[h1];unfold Op.equal Op.maxDepth;simp only[Ake,h,Y5,A4t]
theorem Js {P:Program} {w:World} {t:Nat} {u v:Value} {b:Bool} (h:(Op.equalIn (9999+1) t u v).run P w=.ok b w)
  (h1:binOp .neq t u v=do pure (.bool (!(<-Op.equal t u v)))):(binOp .neq t u v).run P w=.ok (.bool !b) w:=by
 rw[h1];unfold Op.equal Op.maxDepth;simp only[Ake,h,Y5,A4t]
theorem ID {P:Program} {w:World} {d t e:Nat} (hu:(underlying t).run P w=.ok (.slice e) w):(Op.equalIn (d+1) t (.slice none 0 0) (.slice none 0 0)).run P w=.ok true w:=by
 unfold Op.equalIn;simp[hu]
theorem FJ {P:Program} {w:World} {d t e l c:Nat} {a:Addr} (hu:(underlying t).run P w=.ok (.slice e) w):(Op.equalIn (d+1) t (.slice (some a) l c) (.slice none 0 0)).run P w=.ok false w:=by
 unfold Op.equalIn;simp[hu]
theorem Om {P:Program} {w:World} {d t e:Nat} {a:Addr} (hu:(underlying t).run P w=.ok (.pointer e) w):(Op.equalIn (d+1) t (.pointer (some a)) (.pointer none)).run P w=.ok false w:=by
 unfold Op.equalIn;simp[hu]
theorem UY {P:Program} {w:World} {d t e:Nat} (hu:(underlying t).run P w=.ok (.pointer e) w):(Op.equalIn (d+1) t (.pointer none) (.pointer none)).run P w=.ok true w:=by
 unfold Op.equalIn;simp[hu]
theorem OW {P:Program} {w:World} {op:BinOp} {t:Nat} {x y:Operand} {a:Option Addr}:(eqGuard op t x y (.pointer a) (.pointer none)).run P w=.ok () w:=by
 cases op<;>simp[eqGuard]
theorem IA {P:Program} {w:World} {op:BinOp} {t:Nat} {x y:Operand} {a:Option Addr} {l c:Nat}:(eqGuard op t x y (.slice a l c) (.slice none 0 0)).run P w=.ok () w:=by
 cases op<;>simp[eqGuard]
theorem Ad5 {P:Program} {w:World} {op:BinOp} {t:Nat} {x y:Operand} {a b:Bool}:(eqGuard op t x y (.bool a) (.bool b)).run P w=.ok () w:=by
 cases op<;>simp[eqGuard]
theorem Of {P:Program} {w:World} {op:BinOp} {t:Nat} {x y:Operand} {i:Nat} {z:Value}:(eqGuard op t x y (.iface i z) .nilIface).run P w=.ok () w:=by
 cases op<;>simp[eqGuard]
theorem Au9 {P:Program} {w:World} {op:BinOp} {t:Nat} {x y:Operand} (hc:(Fr x||Fr y)=true):(eqGuard op t x y .nilIface .nilIface).run P w=.ok () w:=by
 cases op<;>cases x<;>cases y<;>simp[Fr]at hc<;>simp[eqGuard]
theorem Anz {P:Program} {te:TE} (aH:Dr P te) {w:World} {g:G} {op:BinOp} {t:Nat} {x y:Operand} {u v:Value} {p q r:AV}
  (h:An0 te op t (Fr x||Fr y) p q=some r) (hp:Rel w g u p) (hq:Rel w g v q):
  ∃z,(do eqGuard op t x y u v;binOp op t u v:Sem Value).run P w=.ok z w/\Rel w g z r:=by
 unfold An0 at h;split at h
 ·rename_i k a k' b;rw[CC hp,CC hq];split at h
  ·rename_i hs;split at h<;>simp at h
   rename_i z hz;subst h;obtain⟨z',h1,h2⟩:=ZM (P:=P) (w:=w) (t:=t) (x:=x) (y:=y) (k':=k') hs hz;exact⟨z',h1,.t _ _ (h2 _)⟩
  ·rename_i hs;split at h
   ·rename_i hk;subst hk;split at h<;>simp at h
    rename_i z hz;subst h;obtain⟨z',h1,h2⟩:=Acj (P:=P) (w:=w) (t:=t) (x:=x) (y:=y) hs hz;exact⟨z',h1,.t _ _ (h2 _)⟩
   ·simp at h
 ·rw[Gl hp,Gl hq];split at h<;>simp at h
  rename_i z hz;subst h;obtain⟨z',h1,h2⟩:=Aci (P:=P) (w:=w) (t:=t) (x:=x) (y:=y) hz;exact⟨z',h1,.t _ _ (h2 _)⟩
 ·rename_i a b;rw[Gm hp,Gm hq];split at h
  ·rename_i i1 i2 i3 hl;split at h<;>simp at h
   rename_i z hz;subst h;have hu:=WL (aH _ _ hl) w rfl;rcases FE (w:=w) (M:=g.M) hz with⟨rfl,hr⟩|⟨rfl,hr⟩
   ·exact⟨_,by simp only[Ake,Ad5,Y5];exact GM (UZ hu) rfl,.t _ _ hr⟩
   ·exact⟨_,by simp only[Ake,Ad5,Y5];exact Js (UZ hu) rfl,.t _ _ hr⟩
  ·simp at h
 ·split at h
  ·rename_i i1 i2 i3 hl hc;split at h<;>simp at h
   rename_i z hz;subst h;have hu:u=.nilIface:=by cases Av hp;rfl
   have hv:v=.nilIface:=by cases Av hq;rfl
   subst hu;subst hv;obtain⟨ms,hu⟩:=O2 (aH _ _ hl) w rfl;have c9:=λop=>Au9 (P:=P) (w:=w) (op:=op) (t:=t) hc;rcases FE (w:=w) (M:=g.M) hz with⟨rfl,hr⟩|⟨rfl,hr⟩
   ·exact⟨_,by simp only[Ake,c9,Y5];exact GM (YO hu) rfl,.t _ _ hr⟩
   ·exact⟨_,by simp only[Ake,c9,Y5];exact Js (YO hu) rfl,.t _ _ hr⟩
  ·simp at h
 ·split at h
  ·rename_i i1 i2 i3 hl;split at h<;>simp at h
   rename_i z hz;subst h;obtain⟨z0,hu⟩: ∃z0,u=.iface _ z0:=by cases Av hp;exact⟨_,rfl⟩
   have hv:v=.nilIface:=by cases Av hq;rfl
   subst hu;subst hv;obtain⟨ms,hu⟩:=O2 (aH _ _ hl) w rfl;rcases FE (w:=w) (M:=g.M) hz with⟨rfl,hr⟩|⟨rfl,hr⟩
   ·exact⟨_,by simp only[Ake,Of,Y5];exact GM (K0 hu) rfl,.t _ _ hr⟩
   ·exact⟨_,by simp only[Ake,Of,Y5];exact Js (K0 hu) rfl,.t _ _ hr⟩
  ·simp at h
 ·rename_i m sz es cO;split at h
  ·rename_i i1 i2 i3 e hl;have hu:=G5 (aH _ _ hl) w rfl
   have hv:v=.slice none 0 0:=by
    have:=Av hq
    cases this with
    |sliceNil=>rfl
    |sliceZ _ _ _ hm=>exact absurd rfl hm
    |slice _ _ _ _ _ _ _ _ _ _ _ hm=>exact absurd rfl hm
   subst hv;split at h
   ·have hv:u=.slice none 0 0:=by
     have:=Av hp
     cases this with
     |sliceNil=>rfl
     |sliceZ _ _ _ hm=>exact absurd rfl hm
     |slice _ _ _ _ _ _ _ _ _ _ _ hm=>exact absurd rfl hm
    subst hv;split at h<;>simp at h
    rename_i z hz;subst h;rcases FE (w:=w) (M:=g.M) hz with⟨rfl,hr⟩|⟨rfl,hr⟩
    ·exact⟨_,by simp only[Ake,IA,Y5];exact GM (ID hu) rfl,.t _ _ hr⟩
    ·exact⟨_,by simp only[Ake,IA,Y5];exact Js (ID hu) rfl,.t _ _ hr⟩
   ·obtain⟨a,l,c,hv⟩: ∃a l c,u=.slice (some a) l c:=by
     have:=Av hp
     cases this with
     |slice=>exact⟨_,_,_,rfl⟩
    subst hv;split at h<;>simp at h
    rename_i z hz;subst h;rcases FE (w:=w) (M:=g.M) hz with⟨rfl,hr⟩|⟨rfl,hr⟩
    ·exact⟨_,by simp only[Ake,IA,Y5];exact GM (FJ hu) rfl,.t _ _ hr⟩
    ·exact⟨_,by simp only[Ake,IA,Y5];exact Js (FJ hu) rfl,.t _ _ hr⟩
   ·simp at h
  ·simp at h
 ·split at h
  ·rename_i i1 i2 i3 hl;split at h<;>simp at h
   rename_i z hz;subst h;obtain⟨z0,hu⟩: ∃z0,u=.iface _ z0:=by cases hp;exact⟨_,rfl⟩
   have hv:v=.nilIface:=by cases Av hq;rfl
   subst hu;subst hv;obtain⟨ms,hu⟩:=O2 (aH _ _ hl) w rfl;rcases FE (w:=w) (M:=g.M) hz with⟨rfl,hr⟩|⟨rfl,hr⟩
   ·exact⟨_,by simp only[Ake,Of,Y5];exact GM (K0 hu) rfl,.t _ _ hr⟩
   ·exact⟨_,by simp only[Ake,Of,Y5];exact Js (K0 hu) rfl,.t _ _ hr⟩
  ·simp at h
 ·split at h
  ·rename_i i1 i2 i3 e hl;split at h<;>simp at h
   rename_i z hz;subst h;obtain⟨a0,hu⟩: ∃a0,u=.pointer (some a0):=by cases hp;exact⟨_,rfl⟩
   have hv:v=.pointer none:=by cases Av hq;rfl
   subst hu;subst hv;have hu:=Vw (aH _ _ hl) w rfl;rcases FE (w:=w) (M:=g.M) hz with⟨rfl,hr⟩|⟨rfl,hr⟩
   ·exact⟨_,by simp only[Ake,OW,Y5];exact GM (Om hu) rfl,.t _ _ hr⟩
   ·exact⟨_,by simp only[Ake,OW,Y5];exact Js (Om hu) rfl,.t _ _ hr⟩
  ·simp at h
 ·split at h
  ·rename_i i1 i2 i3 e hl;split at h<;>simp at h
   rename_i z hz;subst h;obtain⟨a0,hu⟩: ∃a0,u=.pointer (some a0):=by cases Av hp;exact⟨_,rfl⟩
   have hv:v=.pointer none:=by cases Av hq;rfl
   subst hu;subst hv;have hu:=Vw (aH _ _ hl) w rfl;rcases FE (w:=w) (M:=g.M) hz with⟨rfl,hr⟩|⟨rfl,hr⟩
   ·exact⟨_,by simp only[Ake,OW,Y5];exact GM (Om hu) rfl,.t _ _ hr⟩
   ·exact⟨_,by simp only[Ake,OW,Y5];exact Js (Om hu) rfl,.t _ _ hr⟩
  ·simp at h
 ·split at h
  ·rename_i i1 i2 i3 e hl;split at h<;>simp at h
   rename_i z hz;subst h;have hu:u=.pointer none:=by cases Av hp;rfl
   have hv:v=.pointer none:=by cases Av hq;rfl
   subst hu;subst hv;have hu:=Vw (aH _ _ hl) w rfl;rcases FE (w:=w) (M:=g.M) hz with⟨rfl,hr⟩|⟨rfl,hr⟩
   ·exact⟨_,by simp only[Ake,OW,Y5];exact GM (UY hu) rfl,.t _ _ hr⟩
   ·exact⟨_,by simp only[Ake,OW,Y5];exact Js (UY hu) rfl,.t _ _ hr⟩
  ·simp at h
 ·simp at h
end Go.Am
namespace Go.Am
theorem Oj {w:World} {g:G} {a:Act} {env:A2} (he:AQ w g a env): ∀{l:List Operand} {ys:List AV},YL env l=some ys->
  l.length=ys.length/\ ∀(i:Nat) v x,(l.map a.eval)[i]?=some v->ys[i]?=some x->Rel w g v x
 |[],ys,h=>by simp[YL]at h;subst h;simp
 |o::r,ys,h=>by
  simp only[YL]at h;split at h
  ·rename_i y hy;split at h
   ·rename_i zs hz;simp at h;subst h;obtain⟨h1,h2⟩:=Oj he hz;refine⟨by simp[h1],λi v x hv hx=>?_⟩
    cases i with
    |zero=>simp at hv hx;subst hv;subst hx;exact AF he hy
    |succ i=>simp only[A5h,A5z]at hv hx;exact h2 i v x hv hx
   ·simp at h
  ·simp at h
theorem Zx {w:World} {g:G}: ∀{l:List AV} {ys:List T},allT l=some ys->l.length=ys.length/\
  ∀(i:Nat) (v:Value) y,ys[i]?=some y->(∀x,l[i]?=some x->Rel w g v x)->RelT w g.M v y
 |[],ys,h=>by simp[allT]at h;subst h;simp
 |x::r,ys,h=>by
  cases x<;>simp only[allT]at h<;>try(simp at h;done)
  rename_i z;split at h
  ·rename_i zs hz;simp at h;subst h;obtain⟨h1,h2⟩:=Zx (w:=w) (g:=g) hz;refine⟨by simp[h1],λi v y hy hr=>?_⟩
   cases i with
   |zero=>simp at hy;subst hy;exact Av (hr _ rfl)
   |succ i=>simp only[A5z]at hy hr;exact h2 i v y hy hr
  ·simp at h
def BB (w:World) (g:G) (vs:List Value) (xs:List AV):Prop:=vs.length=xs.length/\ ∀(i:Nat) v x,vs[i]?=some v->xs[i]?=some x->Rel w g v x
theorem BB.allT {w:World} {g:G} {vs:List Value} {xs:List AV} {ys:List T} (h:BB w g vs xs) (ha:Am.allT xs=some ys):
  vs.length=ys.length/\ ∀(i:Nat) v y,vs[i]?=some v->ys[i]?=some y->RelT w g.M v y:=by
 obtain⟨h1,h2⟩:=Zx (w:=w) (g:=g) ha;exact⟨by rw[h.1,h1],λi v y hv hy=>h2 i v y hy (λx hx=>h.2 i v x hv hx)⟩
theorem Ln {n:Int} {k:Nat} (h:Mp n=some k):n=(k:Int):=by
 cases n<;>simp[Mp]at h;subst h;rfl
theorem Jy {α:Type}: ∀{n:Nat} {l ys:List α},F9 n l=some ys->ys=l.take n/\ys.length=n
 |0,l,ys,h=>by simp[F9]at h;subst h;simp
 |n+1,[],ys,h=>by simp[F9]at h
 |n+1,x::r,ys,h=>by
  simp only[F9]at h;split at h
  ·rename_i zs hz;simp at h;subst h;obtain⟨h1,h2⟩:=Jy hz;exact⟨by simp[h1],by simp[h2]⟩
  ·simp at h
theorem Vp (a:Addr) (n:Nat) (h:a.spot=none):a.add n=⟨a.block,a.off+n,none⟩:=by
 unfold Addr.add;split
 ·rename_i h0;subst h0;cases a;simp at h;simp[h]
 ·rfl
theorem Fe {P:Program} {te:TE} (aH:Dr P te) (w:World) {f:Field} {fi:TI} (hf:look te f.type=some fi) (h0:fi.size≠0) (b o:Nat):
  (fieldPlace ⟨b,o,none⟩ f).run P w=.ok ⟨b,o+f.offset,none⟩ w:=by
 simp[fieldPlace,C0 (aH _ _ hf) w,h0,Vp]
theorem Wk {gs:Array Field} {fs:List (Nat×Nat)} (h:gs.toList.map (λf=>(f.offset,f.type))=fs) {i off ft:Nat} (hi:fs[i]?=some (off,ft)):
  ∃f,gs[i]?=some f/\f.offset=off/\f.type=ft:=by
 subst h;rw[A42]at hi
 cases hg:gs.toList[i]? with
 |none=>simp[hg]at hi
 |some f=>
  simp only[hg,A4g,A26,A6p]at hi;exact⟨f,by rw[<-Agx];exact hg,hi.1,hi.2⟩
theorem GR {w:World} {M:Nat->Nat->Prop} {v:Value} {cs:List T} (h:RelT w M v (.ptr cs)): ∃b off,v=.pointer (some ⟨b,off,none⟩)/\
  ∀i x,cs[i]?=some x-> ¬M b (off+i)/\CV x=true/\ ∃u,w.cell? ⟨b,off+i,none⟩=some u/\RelT w M u x:=by
 cases h with
 |ptr b off _ vs ho hc hr=>exact⟨b,off,rfl,λi x hx=>⟨(hc i x hx).1,ho i x hx,_,(hc i x hx).2,hr i x hx⟩⟩
theorem Aaq {w:World} {M:Nat->Nat->Prop} {b off:Nat} {cs:List T} (h: ∀i x,cs[i]?=some x-> ¬M b (off+i)/\CV x=true/\ ∃u,w.cell? ⟨b,off+i,none⟩=some u/\RelT w M u x):
  RelT w M (.pointer (some ⟨b,off,none⟩)) (.ptr cs):=by
 refine .ptr b off cs (λi=>(w.cell? ⟨b,off+i,none⟩).getD undef) (λi x hx=>(h i x hx).2.1) ?_ ?_
 ·intro i x hx;obtain⟨h1,_,u,h2,_⟩:=h i x hx;exact⟨h1,by simp[h2]⟩
 ·intro i x hx;obtain⟨_,_,u,h2,h3⟩:=h i x hx;simpa[h2]using h3
theorem C5 {w:World} {M:Nat->Nat->Prop} {v:Value} {m:SM} {sz:Nat} {es:List (List T)} (h:RelT w M v (.slice m sz es)):
  (v=.slice none 0 0/\es=[])\/(∃b off cap,v=.slice (some ⟨b,off,none⟩) es.length cap/\es.length<=cap/\(m=.full->cap=es.length)/\m≠ .nil/\(∀e∈es,e.length=sz)/\
   ∀i x,es.flatten[i]?=some x-> ¬M b (off+i)/\CV x=true/\ ∃u,w.cell? ⟨b,off+i,none⟩=some u/\RelT w M u x)\/ ∃a,v=.slice (some a) 0 0/\es=[]/\m≠ .nil:=by
 cases h with
 |sliceNil=>exact .inl ⟨rfl,rfl⟩
 |sliceZ a _ _ hm=>exact .inr (.inr ⟨a,rfl,rfl,hm⟩)
 |slice b off len cap _ _ _ vs hl hc hf hm hp aN aU aL aJ=>
  subst hl;exact .inr (.inl ⟨b,off,cap,rfl,hc,hf,hm,aN,λi x hx=>⟨(aL i x hx).1,aU i x hx,_,(aL i x hx).2,aJ i x hx⟩⟩)
theorem EA {w:World} {M:Nat->Nat->Prop} {b off len cap:Nat} {m:SM} {sz:Nat} {es:List (List T)} (hl:es.length=len) (hc:len<=cap) (hf:m=.full->cap=len) (hm:m≠ .nil) (aN: ∀e∈es,e.length=sz)
  (h: ∀i x,es.flatten[i]?=some x-> ¬M b (off+i)/\CV x=true/\ ∃u,w.cell? ⟨b,off+i,none⟩=some u/\RelT w M u x) (hp: ∀p N,m=.phys p N->b=p/\off=0/\cap*sz<=N:=by intro p N hp;cases hp):
  RelT w M (.slice (some ⟨b,off,none⟩) len cap) (.slice m sz es):=by
 refine .slice b off len cap m sz es (λi=>(w.cell? ⟨b,off+i,none⟩).getD undef) hl hc hf hm hp aN (λi x hx=>(h i x hx).2.1) ?_ ?_
 ·intro i x hx;obtain⟨h1,_,u,h2,_⟩:=h i x hx;exact⟨h1,by simp[h2]⟩
 ·intro i x hx;obtain⟨_,_,u,h2,h3⟩:=h i x hx;simpa[h2]using h3
theorem Do {α:Type} (sz:Nat): ∀(es:List (List α)),(∀e∈es,e.length=sz)-> ∀(l k i:Nat) x,((es.drop l).take k).flatten[i]?=some x->es.flatten[l*sz+i]?=some x
 |[],_,l,k,i,x,h=>by simp at h
 |e::es,hs,0,k,i,x,h=>by
  simp only[A8q]at h;simp only[Nat.zero_mul,Atj];have:(e::es)=(e::es).take k++(e::es).drop k:=(A5j k _).symm;rw[this,A48,Abh]
  ·exact h
  ·rcases A4i i ((e::es).take k).flatten.length with h'|h'
   ·exact h'
   ·rw[A5w h']at h;simp at h
 |e::es,hs,l+1,k,i,x,h=>by
  simp only[A8p]at h;have ih:=Do sz es (λe he=>hs e (by simp[he])) l k i x h;have he:=hs e Ac;rw[A5g,Aez (by rw[he,A58];omega)];rw[show(l+1)*sz+i-e.length=l*sz+i by rw[he,A58];omega];exact ih
theorem JJ {P:Program} {w:World} {g:G} {a:Act} {env:A2} (he:AQ w g a env) {o:Operand} {n y:Nat} {c:BoundsCode} (h:B4 env (some o) 0=some n) (hy:n<=y):
  (Instr.sliceBound (a.eval o) y c).run P w=.ok n w:=by
 simp only[B4]at h;split at h
 ·rename_i k m hm;have hr:=CC (AF he hm);have hn:=Ln h;rw[hr,hn];simp[Instr.sliceBound,asIntOf,hy]
 ·simp at h
theorem Er {env:A2} {o:Operand} {d d':Nat}:B4 env (some o) d=B4 env (some o) d':=rfl
theorem E4 {P:Program} {w:World} {g:G} {a:Act} {env:A2} (he:AQ w g a env) {s:Bool} {len cap:Nat} {lo hi:Option Operand} {l h:Nat}
  (hh:B4 env hi len=some h) (hl:B4 env lo 0=some l) (h1:h<=cap) (h2:l<=h):
  (Instr.sliceBounds s len cap (lo.map a.eval) (hi.map a.eval) none).run P w=.ok (l,h,cap) w:=by
 have e1: ∀z:Sem Nat,(match hi.map a.eval,(none:Option Value)with
  |some v,some _=>Instr.sliceBound v cap .slice3B
  |some v,none=>Instr.sliceBound v cap (if s then .sliceAcap else .sliceAlen)
  |none,none=>pure len
  |none,some _=>z:Sem Nat).run P w=.ok h w:=by
  intro z
  cases hi with
  |none=>simp[B4]at hh;subst hh;simp
  |some o=>simp only[A4g];exact JJ he (Er.symm.trans hh) h1
 have e2: ∀c,(match lo.map a.eval with
  |some v=>Instr.sliceBound v h c
  |none=>pure 0:Sem Nat).run P w=.ok l w:=by
  intro c
  cases lo with
  |none=>simp[B4]at hl;subst hl;simp
  |some o=>simp only[A4g];exact JJ he (Er.symm.trans hl) h2
 unfold Instr.sliceBounds;simp only[Ake,A4t,Y5];cases hi<;>cases lo<;>simp_all
theorem Jf {P:Program} {w:World} {g:G} {a:Act} {env:A2} (he:AQ w g a env) {s:Bool} {len cap:Nat} {lo:Option Operand} {hi mx:Operand} {l h c:Nat}
  (hh:B4 env (some hi) len=some h) (hl:B4 env lo 0=some l) (hc:B4 env (some mx) 0=some c) (h0:c<=cap) (h1:h<=c) (h2:l<=h):
  (Instr.sliceBounds s len cap (lo.map a.eval) (some (a.eval hi)) (some (a.eval mx))).run P w=.ok (l,h,c) w:=by
 have e0:=λk=>JJ (P:=P) (c:=k) he hc h0;have e1:=λk=>JJ (P:=P) (c:=k) he (Er.symm.trans hh) h1
 have e2: ∀k,(match lo.map a.eval with
  |some v=>Instr.sliceBound v h k
  |none=>pure 0:Sem Nat).run P w=.ok l w:=by
  intro k
  cases lo with
  |none=>simp[B4]at hl;subst hl;simp
  |some o=>simp only[A4g];exact JJ he (Er.symm.trans hl) h2
 unfold Instr.sliceBounds;simp only[Ake,e0,e1,Y5];cases lo<;>simp_all
theorem BS (b o n:Nat):(⟨b,o,none⟩:Addr).add n=⟨b,o+n,none⟩:=Vp _ _ rfl
end Go.Am
namespace Go.Am
section
variable {P:Program} {te:TE} {w:World} {g:G}
theorem Ao4 {op:UnOp} {u:Value} {p r:AV} (h:Rf op p=some r) (hp:Rel w g u p): ∃z,(Op.unary op u).run P w=.ok z w/\Rel w g z r:=by
 unfold Rf at h;split at h
 ·split at h<;>simp at h
  subst h;rw[Gm hp];exact⟨_,by simp[Op.unary],.t _ _ (.bool _)⟩
 ·split at h<;>simp at h
  subst h;rw[CC hp];exact⟨.int _ _,by simp[Op.unary,Op.intArith],.t _ _ (.int _ _)⟩
 ·simp at h
theorem Ww (aH:Dr P te) {s d:Nat} (hs: ∃e,P.underlying s=some e) {u:Value} {p r:AV} (h:SK te d p=some r) (hp:Rel w g u p):
  ∃z,(convert s d u).run P w=.ok z w/\Rel w g z r:=by
 obtain⟨e,hs⟩:=hs;have cA:(underlying s).run P w=.ok e w:=by simp[underlying,program,Sem.run,hs]
 unfold SK at h;split at h
 ·rename_i k hl;split at h<;>simp at h
  subst h;rw[CC hp];have hu:=Ac8 (aH _ _ hl) w rfl;exact⟨.int _ _,by simp[convert,cA,hu,Conv.intToInt],.t _ _ (.int _ _)⟩
 ·rename_i hl;split at h<;>simp at h
  subst h;rw[Gl hp];have hu:=It (aH _ _ hl) w rfl;refine⟨.string _,?_,.t _ _ (.str _)⟩;simp[convert,cA,hu]
 ·simp at h
theorem Sq (aH:Dr P te) {t:Nat} {u:Value} {p r:AV} (h:MQ te t p=some r) (hp:Rel w g u p):
  ∃z,(Instr.makeInterface t u).run P w=.ok z w/\Rel w g z r:=by
 unfold MQ at h;split at h
 ·rename_i ti hl;obtain⟨d,hd,hk⟩:=run_underlying (aH _ _ hl) w
  have aM:ti.kind≠ .iface->(Instr.makeInterface t u).run P w=.ok (.iface t u) w:=by
   intro aE;simp only[Instr.makeInterface,Ake,hd,Y5];cases d<;>simp_all[Dp]
  split at h
  ·simp at h
  ·rename_i aE;have gN:ti.kind≠ .iface:=by intro e;exact aE e
   refine⟨_,aM gN,?_⟩;split at h
   ·simp at h;subst h;exact .t _ _ (.iface _ _ _ (Av hp))
   ·rename_i cs;split at h
    ·rename_i ys hy;simp at h;subst h
     cases hp with
     |agg vs _ hl hr=>
      obtain⟨h1,h2⟩:=BB.allT (vs:=vs) ⟨hl,hr⟩ hy;exact .t _ _ (.iface _ _ _ (.agg vs ys h1 h2))
    ·simp at h;subst h;exact .iface _ _ _ hp
   ·simp at h;subst h;exact .iface _ _ _ hp
 ·simp at h
theorem Mr {fn:Fn} {f c:List AV} {fs cs:List Value} (hf:BB w g fs f) (hc:BB w g cs c):Rel w g (.func fn fs.toArray cs.toArray) (LU fn f c):=by
 unfold LU;split
 ·rename_i ys hy;split
  ·rename_i zs hz;obtain⟨a1,a2⟩:=hf.allT hy;obtain⟨b1,b2⟩:=hc.allT hz;exact .t _ _ (.func fn fs cs ys zs a1 b1 a2 b2)
  ·exact .func fn fs cs f c hf.1 hc.1 hf.2 hc.2
 ·exact .func fn fs cs f c hf.1 hc.1 hf.2 hc.2
theorem Ly (aH:Dr P te) {t i:Nat} {u:Value} {p r:AV} (h:IC te t i p=some r) (hp:Rel w g u p):
  ∃z,(Instr.fieldAt t u i).run P w=.ok z w/\Rel w g z r:=by
 unfold IC Ame at h;split at h
 ·rename_i off ft hf;split at hf
  ·rename_i i1 i2 i3 fs hl;obtain⟨gs,hd,hg⟩:=JP (aH _ _ hl) w rfl;obtain⟨f,l9,jJ,pV⟩:=Wk hg hf;split at h
   ·rename_i fi jI;split at h
    ·simp at h
    ·rename_i n hn;have dB:fi.size≠0:=Aa;rw[<-pV]at jI;split at h
     ·rename_i b o;simp at h;subst h
      cases hp with
      |ref _ _ aA hb=>
       refine⟨.pointer (some ⟨aA,o+f.offset,none⟩),by simp[Instr.fieldAt,hd,l9,Instr.sureAddr,Fe aH w jI dB],?_⟩;rw[jJ];exact .ref _ _ _ hb
     ·rename_i b sz k o;simp at h;subst h
      cases hp with
      |eref _ _ _ _ aA hb=>
       refine⟨.pointer (some ⟨aA,k*sz+o+f.offset,none⟩),by simp[Instr.fieldAt,hd,l9,Instr.sureAddr,Fe aH w jI dB],?_⟩;rw[jJ,A7q];exact .eref _ _ _ _ _ hb
     ·rename_i cs;simp at h;subst h;obtain⟨b,o,rfl,hc⟩:=GR (Av hp);refine⟨.pointer (some ⟨b,o+f.offset,none⟩),by simp[Instr.fieldAt,hd,l9,Instr.sureAddr,Fe aH w jI dB],?_⟩;refine .t _ _ (Aaq λj x hx=>?_);rw[A4z]at hx;have:=hc _ _ hx;rw[jJ,A7q];exact this
     ·simp at h
   ·simp at h
  ·simp at hf
 ·simp at h
theorem NG (aH:Dr P te) {t off:Nat} {vs:List Value} {cs:List AV} {r:AV} (h:U2 te t off cs=some r) (hr:BB w g vs cs):
  ∃z,(part t vs.toArray off).run P w=.ok z w/\Rel w g z r:=by
 unfold U2 at h;split at h
 ·rename_i ti hl;have qD:=Ur (aH _ _ hl) w;have aN:=C0 (aH _ _ hl) w;split at h
  ·rename_i ha;split at h
   ·rename_i ys hy;simp at h;subst h;obtain⟨e1,e2⟩:=Jy hy;refine⟨.agg ((vs.drop off).take ti.size).toArray,?_,?_⟩
    ·simp[part,qD,ha,aN,A8h,A7v]
    ·refine .agg _ _ ?_ ?_
     ·subst e1;have:=hr.1;simp only[A2i,A43]at e2⊢;omega
     ·intro i v x hv hx;subst e1;rw[Aoy]at hv hx;split at hv
      ·rename_i hi;rw[WU hi]at hx;rw[A4z]at hv hx;exact hr.2 _ v x hv hx
      ·simp at hv
   ·simp at h
  ·rename_i ha
   have aC:off<cs.length:=by
    rcases A4i off cs.length with h'|h'
    ·exact h'
    ·rw[A5w h']at h;simp at h
   have hv: ∃v,vs[off]?=some v:=⟨vs[off]'(by rw[hr.1];exact aC),Kv _⟩
   obtain⟨v,hv⟩:=hv;refine⟨v,?_,hr.2 _ _ _ hv h⟩;simp[part,qD,ha,hv]
 ·simp at h
def Hn (d:Nat) (xs ys:Array Value):List Field->Sem Bool
 |[]=>pure false
 |f::fs=>
  if f.name≠ "_" then do
   let a<-part f.type xs f.offset;let b<-part f.type ys f.offset;let r<-Op.eqGuardIn d f.type a b
   if r=true then pure true else Hn d xs ys fs
  else Hn d xs ys fs
theorem ME (w:World) (d t:Nat) (xs ys:Array Value) {gs:Array Field} (ht:P.underlying t=some (.struct gs)):
  (Op.eqGuardIn (d+1) t (.agg xs) (.agg ys)).run P w=(Hn d xs ys gs.toList).run P w:=by
 simp only[Op.eqGuardIn,Ake,A3a ht,Y5];rw[<-Array.forIn_toList];generalize gs.toList=fs;clear ht
 induction fs generalizing w with
 |nil=>simp[Hn]
 |cons f fs ih=>
  simp only[List.forIn_cons,Hn,Ake,Sem.run_ite];split
  ·generalize(part f.type xs f.offset).run P w=r1
   cases r1 with
   |ok a w1=>
    simp only[Y5];generalize(part f.type ys f.offset).run P w1=r2
    cases r2 with
    |ok b w2=>
     simp only[Y5];generalize(Op.eqGuardIn d f.type a b).run P w2=r3
     cases r3 with
     |ok r w3=>
      cases r
      ·simp only[Y5,A0s,ZF,A4t];exact ih w3
      ·simp only[Y5,Xs,A4t]
     |halt x w3=>simp[Result.andThen]
    |halt x w2=>simp[Result.andThen]
   |halt x w1=>simp[Result.andThen]
  ·simp only[A4t,Y5];exact ih w
theorem Ad8 (aH:Dr P te) {f:Nat->AV->AV->Option Bool} {D:Nat}
  (hf: ∀t p q b u v,f t p q=some b->Rel w g u p->Rel w g v q->(Op.equalIn D t u v).run P w=.ok b w/\(Op.eqGuardIn D t u v).run P w=.ok false w)
  {vs us:List Value} {xs ys:List AV} (hx:BB w g vs xs) (hy:BB w g us ys): ∀(l:List Field) (b:Bool),(∀x∈l,(x.name != "_")=true)->
  ZP f te xs ys (l.map λf=>(f.offset,f.type))=some b->
  (Op.eqFields D vs.toArray us.toArray l).run P w=.ok b w/\(Hn D vs.toArray us.toArray l).run P w=.ok false w
 |[],b,_,h=>by simp[ZP]at h;subst h;simp[Op.eqFields,Hn]
 |x::r,b,hn,h=>by
  simp only[A5h,ZP]at h;split at h
  ·rename_i p hp;split at h
   ·rename_i q hq;split at h
    ·rename_i b1 iW;split at h
     ·rename_i b2 mL;simp at h;subst h;obtain⟨z,z1,z2⟩:=NG aH hp hx;obtain⟨z',z3,z4⟩:=NG aH hq hy;obtain⟨k1,k2⟩:=hf _ _ _ _ _ _ iW z2 z4;obtain⟨j1,j2⟩:=Ad8 aH hf hx hy r b2 (λy hy=>hn y (by simp[hy])) mL;have aE:x.name≠ "_" :=by have:=hn x Ac;simpa using this
      constructor
      ·simp only[Op.eqFields,Sem.run_ite,WU aE,Ake,z1,z3,k1,Y5];cases b1<;>simp[j1]
      ·simp only[Hn,Sem.run_ite,WU aE,Ake,z1,z3,k2,Y5];simp[j2]
     ·simp at h
    ·simp at h
   ·simp at h
  ·simp at h
theorem Aea (aH:Dr P te): ∀(d D t:Nat) (p q:AV) (b:Bool) (u v:Value),ZQ te d t p q=some b->Rel w g u p->Rel w g v q->d<=D->
  (Op.equalIn D t u v).run P w=.ok b w/\(Op.eqGuardIn D t u v).run P w=.ok false w
 |0,_,_,_,_,_,_,_,h,_,_,_=>by simp[ZQ]at h
 |d+1,0,_,_,_,_,_,_,_,_,_,hD=>Aa
 |d+1,D+1,t,p,q,b,u,v,h,hp,hq,hD=>by
  simp only[ZQ]at h;split at h
  ·rename_i i1 i2 i3 k0 hl;have hu:=Ac8 (aH _ _ hl) w rfl;split at h
   ·rename_i k a k' b';split at h
    ·rename_i hk;subst hk;simp at h;subst h;rw[CC hp,CC hq];simp[Op.equalIn,Op.eqGuardIn,hu]
    ·simp at h
   ·simp at h
  ·rename_i i1 i2 i3 hl;have hu:=WL (aH _ _ hl) w rfl;split at h
   ·simp at h;subst h;rw[Gm hp,Gm hq];simp[Op.equalIn,Op.eqGuardIn,hu]
   ·simp at h
  ·rename_i i1 i2 i3 hl;have hu:=It (aH _ _ hl) w rfl;split at h
   ·simp at h;subst h;rw[Gl hp,Gl hq];simp[Op.equalIn,Op.eqGuardIn,hu,beq_toListBytes,ByteArray.toList_eq]
   ·simp at h
  ·rename_i i1 i2 i3 fs hl;split at h
   ·rename_i xs ys;obtain⟨ds,hd,d9⟩:=(aH _ _ hl).und';obtain⟨gs,pR⟩: ∃gs,ds=.struct gs:=by cases ds<;>simp[Dp]at d9;exact⟨_,rfl⟩
    subst pR;simp[Dp]at d9;have he:=(aH _ _ hl).eqs rfl;simp only[Amr,hd,Qp,A21]at he;have hs:P.stoodInHeld t=false:=by simpa using he.1
    have l7:P.fieldsOf t=gs:=by simp[Program.fieldsOf,hd]
    cases hp with
    |agg vs _ h1 r1=>
    cases hq with
    |agg us _ h2 r2=>
    rw[<-d9]at h;obtain⟨j1,j2⟩:=Ad8 (P:=P) aH (λt p q b u v h hp hq=>Aea aH d D t p q b u v h hp hq Aa) (⟨h1,r1⟩:BB w g vs xs) (⟨h2,r2⟩:BB w g us ys) gs.toList b (λx hx=>he.2 x hx) h;rw[run_equalIn_struct w D t _ _ (by rw[l7];exact hd) hs,l7,ME w D t _ _ hd];exact⟨j1,j2⟩
   ·simp at h
  ·simp at h
theorem Ahs (aH:Dr P te) {op:BinOp} {t:Nat} {x y:Operand} {u v:Value} {p q r:AV}
  (h:Zm te op t (Fr x||Fr y) p q=some r) (hp:Rel w g u p) (hq:Rel w g v q):
  ∃z,(do eqGuard op t x y u v;binOp op t u v:Sem Value).run P w=.ok z w/\Rel w g z r:=by
 unfold Zm at h;split at h
 ·rename_i xs;split at h
  ·rename_i ys;split at h
   ·rename_i b hb;split at h
    ·rename_i z hz;simp at h;subst h;obtain⟨k1,k2⟩:=Aea (P:=P) aH 8 (9999+1) t _ _ b u v hb hp hq Aa;obtain⟨us,gU⟩: ∃us,u=.agg us:=by cases hp;exact⟨_,rfl⟩
     obtain⟨ws,hws⟩: ∃ws,v=.agg ws:=by cases hq;exact⟨_,rfl⟩
     subst gU;subst hws
     have c9: ∀op,(eqGuard op t x y (.agg us) (.agg ws)).run P w=.ok () w:=by
      intro op;have k3:(Op.eqGuardIn 10000 t (.agg us) (.agg ws)).run P w=.ok false w:=k2;cases op<;>simp[eqGuard,Op.maxDepth,k3]
     rcases FE (w:=w) (M:=g.M) hz with⟨rfl,hr⟩|⟨rfl,hr⟩
     ·exact⟨_,by simp only[Ake,c9,Y5];exact GM k1 rfl,.t _ _ hr⟩
     ·exact⟨_,by simp only[Ake,c9,Y5];exact Js k1 rfl,.t _ _ hr⟩
    ·simp at h
   ·simp at h
  ·simp at h
 ·exact Anz aH h hp hq
theorem Sy (aH:Dr P te) {t:Nat} {u v:Value} {p q r:AV} (h:E0 te t p q=some r) (hp:Rel w g u p) (hq:Rel w g v q):
  ∃z,(Instr.indexAt t u v).run P w=.ok z w/\Rel w g z r:=by
 unfold E0 at h;split at h
 ·rename_i k0 n;rw[CC hq];split at h
  ·rename_i k hk;have hn:=Ln hk;subst hn;split at h
   ·rename_i i1 i2 i3 e hl;have hu:=G5 (aH _ _ hl) w rfl;split at h
    ·rename_i ei he;have aN:=C0 (aH _ _ he) w;split at h
     ·rename_i m sz es;split at h
      ·rename_i jT;split at h
       ·rename_i c hc;simp at h;subst h
        have g8:k<es.length:=by
         rcases A4i k es.length with h'|h'
         ·exact h'
         ·rw[A5w h']at hc;simp at hc
        rcases C5 (Av hp)with⟨_,bD⟩|⟨b,off,cap,rfl,cJ,_,_,hs,aL⟩|⟨_,_,bD,_⟩
        ·subst bD;simp at hc
        rotate_left
        ·subst bD;simp at hc
        ·refine⟨.pointer (some ⟨b,off+k*ei.size,none⟩),?_,?_⟩
         ·simp[Instr.indexAt,asIntOf,hu,aN,g8,BS]
         ·refine .t _ _ (Aaq λj x hx=>?_);have eK:=Og sz es hs k c hc j x hx;have:=aL _ _ eK;rw[<-jT,A7q];exact this
       ·simp at h
      ·simp at h
     ·rename_i b sz lo len;split at h
      ·rename_i jT;split at h
       ·rename_i g8;simp at h;subst h
        cases hp with
        |rowNil=>omega
        |row _ _ _ _ aA o cap e' n hb dS ho cJ iO=>
         have dE:o=lo*sz:=by rcases ho with h'|h'<;>omega
         refine⟨.pointer (some ⟨aA,o+k*ei.size,none⟩),?_,?_⟩
         ·simp[Instr.indexAt,asIntOf,hu,aN,g8,BS]
         ·rw[dE,<-jT,<-A6v];exact .eref b sz (lo+k) 0 aA hb
       ·simp at h
      ·simp at h
     ·simp at h
    ·simp at h
   ·rename_i i1 i2 i3 len e hl;have hu:=Ic (aH _ _ hl) w rfl;split at h
    ·rename_i ei he;have aN:=C0 (aH _ _ he) w;split at h
     ·rename_i b off;split at h
      ·rename_i g8;simp at h;subst h
       cases hp with
       |ref _ _ aA hb=>
        refine⟨.pointer (some ⟨aA,off+k*ei.size,none⟩),?_,.ref _ _ _ hb⟩;simp[Instr.indexAt,asIntOf,hu,aN,g8,BS,Instr.sureAddr]
      ·simp at h
     ·simp at h
    ·simp at h
   ·simp at h
  ·simp at h
 ·simp at h
theorem Abl (aH:Dr P te) {t:Nat} {u v:Value} {p q r:AV} (h:Abm te t p q=some r) (hp:Rel w g u p) (hq:Rel w g v q):
  ∃z,(Instr.index t u v).run P w=.ok z w/\Rel w g z r:=by
 unfold Abm at h;split at h
 ·rename_i k0 n;rw[CC hq];split at h
  ·rename_i k hk;have hn:=Ln hk;subst hn;split at h
   ·rename_i i1 i2 i3 hl;have hu:=It (aH _ _ hl) w rfl;split at h
    ·rename_i s;split at h
     ·rename_i c hc;simp at h;subst h;rw[Gl hp];refine⟨.int .u8 c.toNat,?_,.t _ _ (.int _ _)⟩
      have fP:(⟨s.toArray⟩:ByteArray)[k]?=some c:=by
       have aC:k<s.length:=by
        rcases A4i k s.length with h'|h'
        ·exact h'
        ·rw[A5w h']at hc;simp at hc
       rw[getElem?_pos _ _ (by simpa[ByteArray.size]using aC)];rw[Kv aC]at hc;simp at hc;simp[ByteArray.getElem_eq_getElem_data,hc]
      simp[Instr.index,asIntOf,hu,fP]
     ·simp at h
    ·simp at h
   ·rename_i i1 i2 i3 n e hl;have hu:=Ic (aH _ _ hl) w rfl;split at h
    ·rename_i cs;split at h
     ·rename_i aC;have pI:k<n:=by simpa[A6i]using aC
      split at h
      ·rename_i ei he;have aN:=C0 (aH _ _ he) w
       cases hp with
       |agg vs _ h1 r1=>
        obtain⟨z,z1,z2⟩:=NG (P:=P) aH h ⟨h1,r1⟩;refine⟨z,?_,z2⟩;simp[Instr.index,asIntOf,hu,aN,pI,z1]
      ·simp at h
     ·simp at h
    ·simp at h
   ·simp at h
  ·simp at h
 ·simp at h
theorem Alf (aH:Dr P te) {t:Nat} {ts:Array TypeId} {ty:Nat} (ht:ts[0]?=some t) {u:Value} {p r:AV} (h:Auu te t p=some r) (hp:Rel w g u p):
  ∃z,(Builtin.len_ ts ty #[u]).run P w=.ok z w/\Rel w g z r:=by
 unfold Auu at h;split at h
 ·rename_i i1 i2 i3 hl;have hu:=It (aH _ _ hl) w rfl;split at h
  ·simp at h;subst h;rw[Gl hp];rename_i s;refine⟨.int .i64 ((⟨s.toArray⟩:ByteArray).size:Int),by simp only[Builtin.len_,ht];simp[hu,goInt],?_⟩;have e:(⟨s.toArray⟩:ByteArray).size=s.length:=by simp[ByteArray.size]
   rw[e];exact .t _ _ (.int _ _)
  ·simp at h
 ·rename_i i1 i2 i3 e hl;have hu:=G5 (aH _ _ hl) w rfl;split at h
  ·simp at h;subst h;rcases C5 (Av hp)with⟨rfl,rfl⟩|⟨b,off,cap,rfl,_⟩|⟨a,rfl,rfl,_⟩
   ·exact⟨_,by simp[Builtin.len_,ht,hu,goInt],.t _ _ (.int _ _)⟩
   ·exact⟨_,by simp[Builtin.len_,ht,hu,goInt],.t _ _ (.int _ _)⟩
   ·exact⟨_,by simp[Builtin.len_,ht,hu,goInt],.t _ _ (.int _ _)⟩
  ·simp at h;subst h
   cases hp with
   |rowNil=>exact⟨_,by simp[Builtin.len_,ht,hu,goInt],.t _ _ (.int _ _)⟩
   |row=>exact⟨_,by simp[Builtin.len_,ht,hu,goInt],.t _ _ (.int _ _)⟩
  ·simp at h
 ·simp at h
theorem T2 {ρ:Operand->Value} {o:Oper} {x:Operand} (ho:o.op=.nilCheck x) {p r:AV} (h:OK p=some r) (hp:Rel w g (ρ x) p):
  (execOp ρ o).run P w=.ok (.value (ρ x)) w/\Rel w g (ρ x) r:=by
 have key: ∀u,(∀(n:String) f c,u≠ .func (.method n) f c)->u≠ .pointer none->u≠ .nilIface->u≠ .nilFunc->ρ x=u->(execOp ρ o).run P w=.ok (.value (ρ x)) w:=by
  intro u h1 h2 h3 h4 hu;unfold execOp;rw[ho];simp only[hu];simp
 unfold OK at h;split at h<;>simp at h<;>subst h
 ·generalize hv:ρ x=v at hp
  cases hp with
  |ref b off aA hb=>exact⟨by have:=key _ Ac Ac Ac Ac hv;rwa[hv]at this,.ref _ _ _ hb⟩
 ·generalize hv:ρ x=v at hp
  cases hp with
  |eref b sz k off aA hb=>exact⟨by have:=key _ Ac Ac Ac Ac hv;rwa[hv]at this,.eref _ _ _ _ _ hb⟩
 ·obtain⟨b,off,hv,_⟩:=GR (Av hp);exact⟨key _ Ac Ac Ac Ac hv,hp⟩
 ·have:=Av hp;generalize hv:ρ x=v at this
  cases this with
  |iface t v x h=>exact⟨by have:=key _ Ac Ac Ac Ac hv;rwa[hv]at this,hv▸hp⟩
 ·generalize hv:ρ x=v at hp
  cases hp with
  |iface t v x h=>exact⟨by have:=key _ Ac Ac Ac Ac hv;rwa[hv]at this,.iface _ _ _ h⟩
 ·have:=Av hp;generalize hv:ρ x=v at this
  cases this with
  |func=>exact⟨by have:=key _ Ac Ac Ac Ac hv;rwa[hv]at this,hv▸hp⟩
 ·generalize hv:ρ x=v at hp
  cases hp with
  |func fn v1 v2 x1 x2 h1 h2 r1 r2=>
   exact⟨by have:=key _ Ac Ac Ac Ac hv;rwa[hv]at this,.func _ _ _ _ _ h1 h2 r1 r2⟩
end
end Go.Am
namespace Go.Am
section
variable {P:Program} {te:TE} {w:World} {g:G}
theorem ZK (aH:Dr P te) {a:Act} {env:A2} (he:AQ w g a env) {t:Nat} {lo hi mx:Option Operand} {u:Value} {p r:AV}
  (h:Ix te t p env lo hi mx=some r) (hp:Rel w g u p): ∃z,(Instr.sliceAt t u (lo.map a.eval) (hi.map a.eval) (mx.map a.eval)).run P w=.ok z w/\Rel w g z r:=by
 unfold Ix at h;split at h
 ·rename_i i1 i2 i3 hl;have hu:=It (aH _ _ hl) w rfl;split at h
  ·rename_i s;split at h
   ·rename_i hh dU;split at h
    ·rename_i ll eT;split at h
     ·rename_i h1;split at h
      ·rename_i h2;simp at h;subst h;rw[Gl hp];have hb:=E4 (P:=P) he (s:=false) (cap:=s.length) dU eT h1 h2;refine⟨.string ((⟨s.toArray⟩:ByteArray).extract ll hh),?_,?_⟩
       ·have e:(⟨s.toArray⟩:ByteArray).size=s.length:=by simp[ByteArray.size]
        simp[Instr.sliceAt,Instr.slice,hu,e,hb]
       ·have e:(⟨s.toArray⟩:ByteArray).extract ll hh=⟨((s.drop ll).take (hh-ll)).toArray⟩:=by
         apply ByteArray.ext;simp[A8h,A7v]
        rw[e];exact .t _ _ (.str _)
      ·simp at h
     ·simp at h
    ·simp at h
   ·simp at h
  ·simp at h
 ·rename_i i1 i2 i3 e hl;have hu:=G5 (aH _ _ hl) w rfl;split at h
  ·rename_i ei bK;have aN:=C0 (aH _ _ bK) w;split at h
   ·rename_i m sz es;split at h
    ·rename_i hh dU;split at h
     ·rename_i ll eT;split at h
      ·rename_i rL;split at h
       ·rename_i h1;split at h
        ·rename_i h2;have aO:((es.drop ll).take (hh-ll)).length=hh-ll:=by simp;omega
         rcases C5 (Av hp)with⟨rfl,rfl⟩|⟨b,off,cap,rfl,cJ,sV,m8,dF,aL⟩|⟨az,rfl,rfl,m8⟩
         rotate_left 2
         ·have lR:hh=0:=by simpa using h1
          have oH:ll=0:=Aa;subst lR;subst oH;split at h
          ·simp at h;subst h;have hb:=E4 (P:=P) he (s:=true) (cap:=0) dU eT (WW _) (WW _);simp only[A46]at hb
           exact⟨.slice (some az) 0 0,by simp[Instr.sliceAt,Instr.slice,hu,hb,aN],.t _ _ (.sliceZ az _ _ (by
            cases m with
            |any=>simp[F4]
            |full=>simp[F4]
            |phys _ _=>simp[F4]
            |nil=>exact absurd rfl m8))⟩
          ·rename_i mo;split at h
           ·rename_i ho;split at h
            ·rename_i c hc;split at h
             ·rename_i PZ;simp at h;subst h;have hb:=Jf (P:=P) he (s:=true) (cap:=0) dU eT (Er.trans hc) Aa Aa (WW _);rw[PZ]at hb;simp only[A46]at hb
              exact⟨.slice (some az) 0 0,by simp[Instr.sliceAt,Instr.slice,hu,hb,aN],.t _ _ (.sliceZ az _ _ (by
               cases m with
               |any=>simp[GD]
               |full=>simp[GD]
               |phys _ _=>simp[GD]
               |nil=>exact absurd rfl m8))⟩
             ·simp at h
            ·simp at h
           ·simp at h
         ·have lR:hh=0:=by simpa using h1
          have oH:ll=0:=Aa;subst lR;subst oH;split at h
          ·simp at h;subst h;have hb:=E4 (P:=P) he (s:=true) (cap:=0) dU eT (WW _) (WW _);simp only[A46]at hb;exact⟨.slice none 0 0,by simp[Instr.sliceAt,Instr.slice,hu,hb,aN],.t _ _ (.sliceNil _ _)⟩
          ·rename_i mo;split at h
           ·rename_i ho;split at h
            ·rename_i c hc;split at h
             ·rename_i PZ;simp at h;subst h;have hb:=Jf (P:=P) he (s:=true) (cap:=0) dU eT (Er.trans hc) Aa Aa (WW _);rw[PZ]at hb;simp only[A46]at hb;exact⟨.slice none 0 0,by simp[Instr.sliceAt,Instr.slice,hu,hb,aN],.t _ _ (.sliceNil _ _)⟩
             ·simp at h
            ·simp at h
           ·simp at h
         ·have gW: ∀e∈(es.drop ll).take (hh-ll),e.length=sz:=λe he=>dF e (A6k (A3c he))
          have eK: ∀(i:Nat) x,((es.drop ll).take (hh-ll)).flatten[i]?=some x-> ¬g.M b (off+ll*sz+i)/\CV x=true/\ ∃u,w.cell? ⟨b,off+ll*sz+i,none⟩=some u/\RelT w g.M u x:=by
           intro i x hx;have:=aL _ _ (Do sz es dF ll (hh-ll) i x hx);rw[A7q];exact this
          have key: ∀(c:Nat) (m':SM),hh<=c->(m'=.full->c=hh)->m'≠ .nil->(∀p N,m'≠ .phys p N)->
            Rel w g (.slice (if c=ll then some ⟨b,off,none⟩else(some ⟨b,off,none⟩:Option Addr).map (·.add (ll*ei.size))) (hh-ll) (c-ll)) (.t (.slice m' sz ((es.drop ll).take (hh-ll)))):=by
           intro c m' hc hf hm uR;split
           ·rename_i bR;have h0:hh-ll=0:=Aa;have bD:(es.drop ll).take (hh-ll)=[]:=by rw[h0];simp
            refine .t _ _ (EA aO Aa (λh'=>by have:=hf h';omega) hm gW ?_ (λp N hp=>absurd hp (uR p N)));intro i x hx;rw[bD]at hx;simp at hx
           ·rw[A4g,BS,<-rL];exact .t _ _ (EA aO Aa (λh'=>by have:=hf h';omega) hm gW eK (λp N hp=>absurd hp (uR p N)))
          split at h
          ·simp at h;subst h;have hb:=E4 (P:=P) he (s:=true) (cap:=cap) dU eT Aa h2;refine⟨.slice (if cap=ll then some ⟨b,off,none⟩else(some ⟨b,off,none⟩:Option Addr).map (·.add (ll*ei.size))) (hh-ll) (cap-ll),by simp[Instr.sliceAt,Instr.slice,hu,hb,aN],?_⟩
           have:=key cap (F4 m (decide (hh=es.length))) Aa (by
             intro hm
             cases m with
             |any=>simp[F4]at hm
             |phys _ _=>simp[F4]at hm
             |full=>
              by_cases e:hh=es.length
              ·rw[sV rfl,e]
              ·simp[F4,e]at hm
             |nil=>exact absurd rfl m8) (by
             cases m with
             |any=>simp[F4]
             |phys _ _=>simp[F4]
             |full=>by_cases e:hh=es.length<;>simp[F4,e]
             |nil=>exact absurd rfl m8) (λp N=>Agm m _ p N)
           simpa using this
          ·rename_i mo;split at h
           ·rename_i ho;split at h
            ·rename_i c hc;split at h
             ·rename_i PZ;simp at h;subst h;have hb:=Jf (P:=P) he (s:=true) (cap:=cap) dU eT (Er.trans hc) Aa Aa h2;refine⟨.slice (if c=ll then some ⟨b,off,none⟩else(some ⟨b,off,none⟩:Option Addr).map (·.add (ll*ei.size))) (hh-ll) (c-ll),by simp[Instr.sliceAt,Instr.slice,hu,hb,aN],?_⟩
              have:=key c (GD m) Aa (λ_=>PZ) (by
               cases m with
               |any=>simp[GD]
               |full=>simp[GD]
               |phys _ _=>simp[GD]
               |nil=>exact absurd rfl m8) (λp N=>Agl m p N)
              simpa using this
             ·simp at h
            ·simp at h
           ·simp at h
        ·simp at h
       ·simp at h
      ·split at h
       ·split at h
        ·have hv:u=.slice none 0 0:=by
          rcases C5 (Av hp)with⟨h1,_⟩|⟨_,_,_,_,_,_,h1,_⟩|⟨_,_,_,h1⟩
          ·exact h1
          ·exact absurd rfl h1
          ·exact absurd rfl h1
         subst hv;split at h
         ·simp at h;subst h;have hb:=E4 (P:=P) he (s:=true) (cap:=0) dU eT (WW _) (WW _);simp only[A46]at hb;exact⟨.slice none 0 0,by simp[Instr.sliceAt,Instr.slice,hu,hb,aN],.t _ _ (.sliceNil _ _)⟩
         ·split at h
          ·rename_i mo _ _ ho hc;simp at h;subst h;have hb:=Jf (P:=P) he (s:=true) (cap:=0) dU eT (Er.trans hc) (WW _) (WW _) (WW _);simp only[A46]at hb;exact⟨.slice none 0 0,by simp[Instr.sliceAt,Instr.slice,hu,hb,aN],.t _ _ (.sliceNil _ _)⟩
          ·simp at h
        ·simp at h
       ·simp at h
     ·simp at h
    ·simp at h
   ·rename_i b sz rl len;split at h
    ·rename_i hh dU;split at h
     ·rename_i ll eT;split at h
      ·rename_i rL;split at h
       ·rename_i h1;split at h
        ·rename_i h2;split at h
         ·simp at h;subst h
          cases hp with
          |rowNil _ _ a0 jN hb0=>
           have lR:hh=0:=Aa;have oH:ll=0:=Aa;subst lR;subst oH;have hb:=E4 (P:=P) he (s:=true) (cap:=0) dU eT (WW _) (WW _);exact⟨.slice a0 0 0,by simp[Instr.sliceAt,Instr.slice,hu,hb,aN],.rowNil _ _ _ jN hb0⟩
          |row _ _ _ _ aA o cap e' n hb0 dS ho cJ iO=>
           have hb:=E4 (P:=P) he (s:=true) (cap:=cap) dU eT Aa h2;refine⟨.slice (if cap=ll then some ⟨aA,o,none⟩else(some ⟨aA,o,none⟩:Option Addr).map (·.add (ll*ei.size))) (hh-ll) (cap-ll),by simp[Instr.sliceAt,Instr.slice,hu,hb,aN],?_⟩
           have uU:(rl+ll+(cap-ll))*sz<=n:=by
            rw[show rl+ll+(cap-ll)=rl+cap from Aa];exact iO
           split
           ·exact .row _ _ _ _ aA o _ e' n hb0 dS (.inr Aa) Aa uU
           ·rename_i aE;rw[A4g,BS,<-rL];have dE:o=rl*sz:=by rcases ho with h'|h'<;>omega
            exact .row _ _ _ _ aA _ _ e' n hb0 dS (.inl (by rw[dE,A6v])) Aa uU
         ·simp at h
        ·simp at h
       ·simp at h
      ·simp at h
     ·simp at h
    ·simp at h
   ·simp at h
  ·simp at h
 ·simp at h
theorem RR (aH:Dr P te) {a:Act} {env:A2} (he:AQ w g a env) {o:Oper} {x:AV} (h:Cj te o.op env=some x):
  ∃v,(execOp a.eval o).run P w=.ok (.value v) w/\Rel w g v x:=by
 unfold Cj at h;split at h
 case h_1 y ho=>exact⟨_,by simp[execOp,ho],AF he h⟩
 case h_2 y ho=>exact⟨_,by simp[execOp,ho],AF he h⟩
 case h_3 c p q ho=>
  split at h
  ·rename_i b hb;have hc:=Gm (AF he hb);split at h
   ·exact⟨_,by simp[execOp,ho,hc,asBool],AF he h⟩
   ·exact⟨_,by simp[execOp,ho,hc,asBool],AF he h⟩
  ·simp at h
 case h_4 op t y z yt ho=>
  split at h
  ·rename_i p hp;split at h
   ·rename_i q hq;obtain⟨r,h1,h2⟩:=Ahs (P:=P) aH h (AF he hp) (AF he hq);refine⟨r,?_,h2⟩;simp only[Ake]at h1;simp only[execOp,ho,Ake,h1,Y5,A4t]
   ·simp at h
  ·simp at h
 case h_5 op t y ho=>
  split at h
  ·rename_i p hp;obtain⟨r,h1,h2⟩:=Ao4 (P:=P) h (AF he hp);exact⟨r,by simp[execOp,ho,h1],h2⟩
  ·simp at h
 case h_6 s d y ho=>
  split at h
  ·rename_i p hp;split at h
   ·rename_i si hs;obtain⟨e,dS,_⟩:=(aH _ _ hs).und';obtain⟨r,h1,h2⟩:=Ww (P:=P) aH (s:=s) ⟨e,dS⟩ h (AF he hp);exact⟨r,by simp[execOp,ho,h1],h2⟩
   ·simp at h
  ·simp at h
 case h_7 t y ho=>
  split at h
  ·rename_i p hp;obtain⟨r,h1,h2⟩:=Sq (P:=P) aH h (AF he hp);exact⟨r,by simp[execOp,ho,h1],h2⟩
  ·simp at h
 case h_8 fn f c ho=>
  split at h
  ·rename_i fs hf;split at h
   ·rename_i cs hc;simp at h;subst h;obtain⟨f1,f2⟩:=Oj he hf;obtain⟨c1,c2⟩:=Oj he hc;refine⟨.func fn (f.toList.map a.eval).toArray (c.toList.map a.eval).toArray,?_,Mr ⟨by simpa using f1,f2⟩ ⟨by simpa using c1,c2⟩⟩;have em: ∀(f:Array Operand),(f.toList.map a.eval).toArray=f.map a.eval:=by intro f;apply A5v;simp
    rw[em,em];simp[execOp,ho,Instr.makeFunc]
   ·simp at h
  ·simp at h
 case h_9 y ho=>
  split at h
  ·rename_i p hp;obtain⟨h1,h2⟩:=T2 (P:=P) (w:=w) (g:=g) ho h (AF he hp);exact⟨_,h1,h2⟩
  ·simp at h
 case h_10 t y i ho=>
  split at h
  ·rename_i p hp;obtain⟨r,h1,h2⟩:=Ly (P:=P) aH h (AF he hp);exact⟨r,by simp[execOp,ho,h1],h2⟩
  ·simp at h
 case h_11 t y i ho=>
  split at h
  ·rename_i cs hp;split at h
   ·rename_i off ft hf;unfold Ame at hf;split at hf
    ·rename_i i1 i2 i3 fs hl;obtain⟨gs,hd,hg⟩:=JP (aH _ _ hl) w rfl;obtain⟨f,l9,jJ,pV⟩:=Wk hg hf;have aJ:=AF he hp;generalize hv:a.eval y=v at aJ
     cases aJ with
     |agg vs _ hl hr=>
      obtain⟨r,h1,h2⟩:=NG (P:=P) aH h ⟨hl,hr⟩;refine⟨r,?_,h2⟩;subst jJ;subst pV;simp[execOp,ho,hv,Instr.field,hd,l9,asAgg,h1]
    ·simp at hf
   ·simp at h
  ·simp at h
 case h_12 t y i ho=>
  split at h
  ·rename_i p hp;split at h
   ·rename_i q hq;obtain⟨r,h1,h2⟩:=Sy (P:=P) aH h (AF he hp) (AF he hq);exact⟨r,by simp[execOp,ho,h1],h2⟩
   ·simp at h
  ·simp at h
 case h_13 t y i ho=>
  split at h
  ·rename_i p hp;split at h
   ·rename_i q hq;obtain⟨r,h1,h2⟩:=Abl (P:=P) aH h (AF he hp) (AF he hq);exact⟨r,by simp[execOp,ho,h1],h2⟩
   ·simp at h
  ·simp at h
 case h_14 y i ho=>
  split at h
  ·rename_i p hp;unfold YK at h;split at h
   ·rename_i xs;have aJ:=AF he hp;generalize hv:a.eval y=v at aJ
    cases aJ with
    |tuple vs _ hl hr=>
     have aC:i<xs.length:=by
      rcases A4i i xs.length with h'|h'
      ·exact h'
      ·rw[A5w h']at h;simp at h
     obtain⟨u,hu⟩: ∃u,vs[i]?=some u:=⟨vs[i]'(by rw[hl];exact aC),Kv _⟩
     exact⟨u,by simp[execOp,ho,hv,Instr.extract,hu],hr _ _ _ hu h⟩
   ·simp at h
  ·simp at h
 case h_15 t y lo hi mx ho=>
  split at h
  ·rename_i p hp;obtain⟨r,h1,h2⟩:=ZK (P:=P) aH he h (AF he hp);exact⟨r,by simp[execOp,ho,h1],h2⟩
  ·simp at h
 case h_16 c ho=>
  split at h
  ·rename_i hc;split at h
   ·rename_i x1 y1 dW;split at h
    ·rename_i k p hp;split at h
     ·rename_i k' q hq;simp at h;subst h;have fZ:c.args= #[x1,y1]:=by apply A5v;simp[dW]
      have e1:=CC (AF he hp);have e2:=CC (AF he hq);exact⟨.int k (Ak7 p q),by simp[execOp,ho,resolve,hc,invoke,builtin,fZ,e1,e2,Builtin.max_,Builtin.max2,Ak7],.t _ _ (.int _ _)⟩
     ·simp at h
    ·simp at h
   ·simp at h
  ·rename_i hc;split at h
   ·rename_i x1 y1 dW;split at h
    ·rename_i k p hp;split at h
     ·rename_i k' q hq;simp at h;subst h;have fZ:c.args= #[x1,y1]:=by apply A5v;simp[dW]
      have e1:=CC (AF he hp);have e2:=CC (AF he hq);exact⟨.int k (Si p q),by simp[execOp,ho,resolve,hc,invoke,builtin,fZ,e1,e2,Builtin.min_,Builtin.min2,Si],.t _ _ (.int _ _)⟩
     ·simp at h
    ·simp at h
   ·simp at h
  ·rename_i hc;split at h
   ·rename_i y dW;split at h
    ·rename_i p hp;split at h
     ·rename_i t aD fS;have ht:c.argTypes[0]?=some t:=by rw[<-Agx,fS];rfl
      obtain⟨r,h1,h2⟩:=Alf (P:=P) aH (ty:=o.type) ht h (AF he hp);refine⟨r,?_,h2⟩;have fZ:c.args= #[y]:=by apply A5v;simp[dW]
      simp[execOp,ho,resolve,hc,invoke,builtin,fZ,h1]
     ·simp at h
    ·simp at h
   ·simp at h
  ·simp at h
 case h_17=>simp at h
end
end Go.Am
namespace Go.Am
theorem GP {w w':World} {b:Nat} (h:w'.heap[b]?=w.heap[b]?):w'.shape? b=w.shape? b:=by simp[World.shape?,h]
theorem Ajq {w:World} {b:Nat} {p:TypeId×Nat} (h:w.shape? b=some p):b<w.heap.size:=by
 unfold World.shape? at h;rcases A4i b w.heap.size with h'|h'
 ·exact h'
 ·simp[A39 h']at h
theorem C9 {w:World} {b:Nat} {o:Obj} (h:w.heap[b]?=some o):b<w.heap.size:=by
 rcases A4i b w.heap.size with h'|h'
 ·exact h'
 ·simp[A39 h']at h
theorem Fh.mono {w w':World} {g g':G} {b:Nat} {B:Blk} (hb:g'.β b=g.β b) (ho: ∀aA,g.β b=some (some aA)->g.own aA->g'.own aA)
  (hh: ∀aA,g.β b=some (some aA)->w'.heap[aA]?=w.heap[aA]?) (hr: ∀v x,Rel w g v x->Rel w' g' v x) (h:Fh w g b B):Fh w' g' b B:=by
 cases B with
 |cells cs=>
  obtain⟨aA,vs,e,h1,h2,h3,h4,h5⟩:=h;exact⟨aA,vs,e,by rw[hb];exact h1,ho _ h1 h2,by rw[hh _ h1];exact h3,h4,λi v x hv hx=>hr _ _ (h5 i v x hv hx)⟩
 |grow sz es=>
  obtain⟨h0,h⟩:=h;refine⟨h0,?_⟩;rcases h with⟨h1,h2⟩|⟨aA,vs,e,h1,h2,h3,h4,h5⟩
  ·exact .inl ⟨by rw[hb];exact h1,h2⟩
  ·exact .inr ⟨aA,vs,e,by rw[hb];exact h1,ho _ h1 h2,by rw[hh _ h1];exact h3,h4,λi v x hv hx=>⟨(h5 i v x hv hx).1,Av (hr _ _ (.t _ _ (h5 i v x hv hx).2))⟩⟩
 |rights L=>have h1:g.β b=some none:=h;show g'.β b=some none;rw[hb];exact h1
 |loop l st pe ps asg bd n env=>
  obtain⟨r,h1,h2,h3,h4,h5,h6⟩:=h;exact⟨r,by rw[hb];exact h1,ho _ h1 h2,by rw[hh _ h1];exact h3,h4,h5,λt x ht=>hr _ _ (h6 t x ht)⟩
 |mp ks xs=>
  obtain⟨aA,es,clk,h1,h2,h3,h4,h5,h6,h7⟩:=h;exact⟨aA,es,clk,by rw[hb];exact h1,ho _ h1 h2,by rw[hh _ h1];exact h3,h4,h5,λi e x he hx=>Av (hr _ _ (.t _ _ (h6 i e x he hx))),λi e x he hx=>hr _ _ (h7 i e x he hx)⟩
theorem Inv.none {w:World} {g:G} {σ:St} (h:Inv w g σ) {b:Nat} (hb:look σ b=none):g.β b=none:=by
 have:=h.dom b;rw[hb]at this
 cases hg:g.β b with
 |none=>rfl
 |some p=>rw[hg]at this;simp at this
structure More (w w':World) (o:Obj):Prop where
 size:w'.heap.size=w.heap.size+1
 old: ∀aA,aA<w.heap.size->w'.heap[aA]?=w.heap[aA]?
 new:w'.heap[w.heap.size]?=some o
 same:Acp w w'
theorem More.alloc (w:World) (o:Obj):More w (w.alloc o) o where
 size:=Ac
 old aA hb:=heap_alloc_old w o aA hb
 new:=heap_alloc_new w o
 same:=⟨rfl,rfl⟩
theorem A3i (w:World) (o:Obj):More w (w.drew.alloc o) o where
 size:=Ac
 old aA hb:=heap_alloc_old w.drew o aA hb
 new:=heap_alloc_new w.drew o
 same:=⟨rfl,rfl⟩
section
variable {w w':World} {g:G} {σ:St} {o:Obj}
theorem More.shape (hm:More w w' o): ∀b p,w.shape? b=some p->w'.shape? b=some p:=λb p hp=>by
 rw[GP (hm.old b (Ajq hp))];exact hp
theorem Fs (hi:Inv w g σ) (hm:More w w' o):Ext w g w' g/\Inv w' g σ/\(∀v x,Rel w g v x->Rel w' g v x):=by
 have aG:Ext w g w' g:=⟨by rw[hm.size];omega,λaA hb _=>hm.old aA hb,λ_ _ h=>h,λ_ _=>A6h,hm.shape,λ_ h=>⟨h,rfl⟩,⟨rfl,hm.same⟩,Hu (λ_ _ _ _ h=>h) (λaA e hb _ _=>hm.old aA hb)⟩
 have hr: ∀v x,Rel w g v x->Rel w' g v x:=λv x h=>h.mono aG.keeps (λ_ _ h=>h) hm.shape;refine⟨aG,⟨λb B hB=>?_,hi.dom,hi.inj,λaA hb=>by have:=hi.lt aA hb;rw[hm.size];omega,hi.bx,hi.dis,hi.im_of aG.keeps,by have:=hi.lo;rw[hm.size];omega,hi.sx.mono (by rw[hm.size];omega) rfl (λ_ _ _ h=>h) (λaA e h _ _=>hm.old aA (hi.sx.lt _ _ h)) (λc aA h=>.inl ⟨c,h⟩) (λ_ _ h=>h)⟩,hr⟩;have bA:=hi.ok b B hB;refine bA.mono rfl (λ_ _ h=>h) (λaA hb=>hm.old _ ?_) hr
 cases B with
 |cells cs=>obtain⟨aX,vs,e,h1,h2,h3,_⟩:=bA;rw[h1]at hb;cases hb;exact C9 h3
 |grow sz es=>
  rcases bA.2 with⟨h1,_⟩|⟨aX,vs,e,h1,h2,h3,_⟩
  ·rw[h1]at hb;cases hb
  ·rw[h1]at hb;cases hb;exact C9 h3
 |rights L=>have h1:g.β b=some none:=bA;rw[h1]at hb;cases hb
 |loop l st pe ps asg bd n env=>obtain⟨r,h1,h2,h3,_⟩:=bA;rw[h1]at hb;cases hb;exact C9 h3
 |mp ks xs=>obtain⟨aX,es,clk,h1,h2,h3,_⟩:=bA;rw[h1]at hb;cases hb;exact C9 h3
theorem Al0 (hi:Inv w g σ) (o:Nat): ¬g.M w.heap.size o:=λh=>by
 rcases h with⟨h,_⟩|h
 ·have:=hi.lt _ (.inl h);omega
 ·have:=hi.lt _ (.inr ⟨_,h⟩);omega
def G.with (g:G) (lab:Nat) (p:Option Nat):G:={g with β:=λb=>if b=lab then some p else g.β b,own:=λaA=>g.own aA\/p=some aA}
theorem HS (hi:Inv w g σ) {lab:Nat} (hl:look σ lab=none) (hm:More w w' o) {B:Blk}
  (hB:(∀v x,Rel w g v x->Rel w' (g.with lab (some w.heap.size)) v x)->Fh w' (g.with lab (some w.heap.size)) lab B):
  Ext w g w' (g.with lab (some w.heap.size))/\Inv w' (g.with lab (some w.heap.size)) ((lab,B)::σ)/\(∀v x,Rel w g v x->Rel w' (g.with lab (some w.heap.size)) v x):=by
 have hn:=hi.none hl
 have gX: ∀b,g.bx b->b≠lab:=by
  intro b hb e;subst e;obtain⟨cs,h⟩:=(hi.bx _ hb).2;rw[hl]at h;cases h
 have aG:Ext w g w' (g.with lab (some w.heap.size)):=by
  refine⟨by rw[hm.size];omega,λaA hb _=>hm.old aA hb,?_,λ_ _=>A6h,hm.shape,λb hb=>⟨hb,by simp[G.with,gX b hb]⟩,⟨rfl,hm.same⟩,Hu (λ_ _ _ _ h=>h) (λaA e hb _ _=>hm.old aA hb)⟩;rintro aA hb (h|h)
  ·exact h
  ·simp at h;omega
 have hr: ∀v x,Rel w g v x->Rel w' (g.with lab (some w.heap.size)) v x:=λv x h=>by
  refine h.mono aG.keeps (λb p hb=>?_) hm.shape;have aE:b≠lab:=by intro e;rw[e,hn]at hb;cases hb
  simp[G.with,aE,hb]
 refine⟨aG,⟨?_,?_,?_,?_,λb hb=>⟨(hi.bx b hb).1,by rw[Ap,Ug (A6f (gX b hb))];exact(hi.bx b hb).2⟩,?_,hi.im_of aG.keeps,(by have:=hi.lo;rw[hm.size];exact Nat.le_succ_of_le this),hi.sx.mono (by rw[hm.size];omega) rfl (λ_ _ _ h=>.inl h) (λaA e h _ _=>hm.old aA (hi.sx.lt _ _ h)) (λc aA h=>?_) (λb L hL=>?_)⟩,hr⟩
 rotate_left 4
 ·rintro aA o (h|h) ho
  ·exact hi.dis aA o h ho
  ·simp at h;subst h;have:=hi.lt _ (.inr ⟨_,ho⟩);omega
 ·simp only[G.with]at h;split at h
  ·simp at h;subst h
   cases hs:g.sp w.heap.size with
   |none=>exact .inr rfl
   |some e=>have:=hi.sx.lt _ _ hs;omega
  ·exact .inl ⟨c,h⟩
 ·rw[Ap]at hL;split at hL
  ·rename_i e;subst e;simp at hL;subst hL;have h1:(g.with lab (some w.heap.size)).β lab=some none:=hB hr;simp[G.with]at h1
  ·exact hL
 ·intro b C hC;rw[Ap]at hC;split at hC
  ·rename_i e;subst e;simp at hC;subst hC;exact hB hr
  ·rename_i aE;have bA:=hi.ok b C hC;refine bA.mono (by simp[G.with,A6f aE]) (λ_ _ h=>.inl h) (λaA hb=>hm.old _ ?_) hr
   cases C with
   |cells cs=>obtain⟨aX,vs,e,h1,h2,h3,_⟩:=bA;rw[h1]at hb;cases hb;exact C9 h3
   |grow sz es=>
    rcases bA.2 with⟨h1,_⟩|⟨aX,vs,e,h1,h2,h3,_⟩
    ·rw[h1]at hb;cases hb
    ·rw[h1]at hb;cases hb;exact C9 h3
   |rights L=>have h1:g.β b=some none:=bA;rw[h1]at hb;cases hb
   |loop l st pe ps asg bd n env=>obtain⟨r,h1,h2,h3,_⟩:=bA;rw[h1]at hb;cases hb;exact C9 h3
   |mp ks xs=>obtain⟨aX,es,clk,h1,h2,h3,_⟩:=bA;rw[h1]at hb;cases hb;exact C9 h3
 ·intro b;rw[Ap];by_cases e:lab=b
  ·subst e;simp[G.with]
  ·simp only[Ug e];rw[hi.dom b];simp[G.with,A6f e]
 ·intro b b' aA h1 h2;simp only[G.with]at h1 h2
  have EX: ∀c,g.β c=some (some aA)->aA<w.heap.size:=by
   intro c hc;have hd:=hi.dom c;rw[hc]at hd
   cases cU:look σ c with
   |none=>rw[cU]at hd;simp at hd
   |some C=>
    have bA:=hi.ok c C cU
    cases C with
    |cells cs=>obtain⟨aX,vs,e,h1,h2,h3,_⟩:=bA;rw[h1]at hc;cases hc;exact C9 h3
    |grow sz es=>
     rcases bA.2 with⟨h1,_⟩|⟨aX,vs,e,h1,h2,h3,_⟩
     ·rw[h1]at hc;cases hc
     ·rw[h1]at hc;cases hc;exact C9 h3
    |rights L=>have h1:g.β c=some none:=bA;rw[h1]at hc;cases hc
    |loop l st pe ps asg bd n env=>obtain⟨r,h1,h2,h3,_⟩:=bA;rw[h1]at hc;cases hc;exact C9 h3
    |mp ks xs=>obtain⟨aX,es,clk,h1,h2,h3,_⟩:=bA;rw[h1]at hc;cases hc;exact C9 h3
  by_cases e1:b=lab<;>by_cases e2:b'=lab
  ·rw[e1,e2]
  ·rw[WU e1]at h1;rw[Ug e2]at h2;have:=EX _ h2;simp at h1;omega
  ·rw[Ug e1]at h1;rw[WU e2]at h2;have:=EX _ h1;simp at h2;omega
  ·rw[Ug e1]at h1;rw[Ug e2]at h2;exact hi.inj _ _ _ h1 h2
 ·rintro aA ((h|h)|⟨o,h⟩)
  ·have:=hi.lt aA (.inl h);rw[hm.size];omega
  ·simp at h;rw[hm.size];omega
  ·have:=hi.lt aA (.inr ⟨o,h⟩);rw[hm.size];omega
theorem NM (hi:Inv w g σ) {lab sz:Nat} (hl:look σ lab=none):
  Ext w g w (g.with lab none)/\Inv w (g.with lab none) ((lab,.grow sz [])::σ)/\(∀v x,Rel w g v x->Rel w (g.with lab none) v x):=by
 have hn:=hi.none hl
 have gX: ∀b,g.bx b->b≠lab:=by
  intro b hb e;subst e;obtain⟨cs,h⟩:=(hi.bx _ hb).2;rw[hl]at h;cases h
 have aG:Ext w g w (g.with lab none):=by
  refine⟨WW _,λ_ _ _=>rfl,?_,λ_ _=>A6h,λ_ _ h=>h,λb hb=>⟨hb,by simp[G.with,gX b hb]⟩,⟨rfl,rfl,rfl⟩,Hu (λ_ _ _ _ h=>h) (λ_ _ _ _ _=>rfl)⟩;rintro aA hb (h|h)
  ·exact h
  ·cases h
 have hr: ∀v x,Rel w g v x->Rel w (g.with lab none) v x:=λv x h=>by
  refine h.mono aG.keeps (λb p hb=>?_) (λ_ _ h=>h);have aE:b≠lab:=by intro e;rw[e,hn]at hb;cases hb
  simp[G.with,aE,hb]
 refine⟨aG,⟨?_,?_,?_,?_,λb hb=>⟨(hi.bx b hb).1,by rw[Ap,Ug (A6f (gX b hb))];exact(hi.bx b hb).2⟩,?_,hi.im_of aG.keeps,hi.lo,hi.sx.mono (WW _) rfl (λ_ _ _ h=>.inl h) (λ_ _ _ _ _=>rfl) (λc aA h=>?_) (λb L hL=>?_)⟩,hr⟩
 rotate_left 4
 ·rintro aA o (h|h) ho
  ·exact hi.dis aA o h ho
  ·cases h
 ·simp only[G.with]at h;split at h
  ·cases h
  ·exact .inl ⟨c,h⟩
 ·rw[Ap]at hL;split at hL
  ·cases hL
  ·exact hL
 ·intro b C hC;rw[Ap]at hC;split at hC
  ·rename_i e;subst e;simp at hC;subst hC;exact⟨Ac,.inl ⟨by simp[G.with],rfl⟩⟩
  ·rename_i aE;exact(hi.ok b C hC).mono (by simp[G.with,A6f aE]) (λ_ _ h=>.inl h) (λaA hb=>rfl) hr
 ·intro b;rw[Ap];by_cases e:lab=b
  ·subst e;simp[G.with]
  ·simp only[Ug e];rw[hi.dom b];simp[G.with,A6f e]
 ·intro b b' aA h1 h2;simp only[G.with]at h1 h2;by_cases e1:b=lab<;>by_cases e2:b'=lab
  ·rw[e1,e2]
  ·rw[WU e1]at h1;cases h1
  ·rw[WU e2]at h2;cases h2
  ·rw[Ug e1]at h1;rw[Ug e2]at h2;exact hi.inj _ _ _ h1 h2
 ·rintro aA ((h|h)|h)
  ·exact hi.lt aA (.inl h)
  ·cases h
  ·exact hi.lt aA (.inr h)
structure Sets (w w':World) (aA:Nat) (vs':Array Value) (e:TypeId):Prop where
 size:w'.heap.size=w.heap.size
 old: ∀b,b≠aA->w'.heap[b]?=w.heap[b]?
 new:w'.heap[aA]?=some (.cells vs' e (0,0))
 same:Acp w w'
theorem Sets.setRow {w:World} {aA:Nat} {vs:Array Value} {e:TypeId} (h:w.heap[aA]?=some (.cells vs e (0,0))) (vs':Array Value):Sets w (w.setRow aA vs') aA vs' e where
 size:=Ac
 old b hb:=setRow_other w aA b vs' hb
 new:=setRow_heap w aA vs vs' e (0,0) h
 same:=⟨rfl,rfl⟩
def upd {α:Type}:List (Nat×α)->Nat->α->List (Nat×α)
 |[],n,x=>[(n,x)]
 |(k,y)::r,n,x=>bif Nat.beq k n then(k,x)::r else(k,y)::upd r n x
theorem AK {α:Type}: ∀(l:List (Nat×α)) (n:Nat) (x:α) (m:Nat),look (upd l n x) m=if n=m then some x else look l m
 |[],n,x,m=>by simp only[upd];rw[Ap]
 |(k,y)::r,n,x,m=>by
  by_cases h:k=n
  ·subst h;simp only[upd,A7a,A6x];rw[Ap,Ap];by_cases h2:k=m<;>simp[h2]
  ·have hb:Nat.beq k n=false:=by
    cases hb:Nat.beq k n with
    |false=>rfl
    |true=>exact absurd (A4f hb) h
   simp only[upd,hb,A61];rw[Ap,Ap,AK r n x m];by_cases h2:k=m
   ·subst h2;simp[A6f h]
   ·simp[h2]
section
variable {w w':World} {g:G} {σ:St}
theorem EX (hi:Inv w g σ) {c aA:Nat} (hc:g.β c=some (some aA)):aA<w.heap.size/\g.own aA/\True:=by
 have hd:=hi.dom c;rw[hc]at hd
 cases cU:look σ c with
 |none=>rw[cU]at hd;simp at hd
 |some C=>
  have bA:=hi.ok c C cU
  cases C with
  |cells cs=>obtain⟨aX,vs,e,h1,h2,h3,_⟩:=bA;rw[h1]at hc;cases hc;exact⟨C9 h3,h2,trivial⟩
  |grow sz es=>
   rcases bA.2 with⟨h1,_⟩|⟨aX,vs,e,h1,h2,h3,_⟩
   ·rw[h1]at hc;cases hc
   ·rw[h1]at hc;cases hc;exact⟨C9 h3,h2,trivial⟩
  |rights L=>have h1:g.β c=some none:=bA;rw[h1]at hc;cases hc
  |loop l st pe ps asg bd n env=>obtain⟨r,h1,h2,h3,_⟩:=bA;rw[h1]at hc;cases hc;exact⟨C9 h3,h2,trivial⟩
  |mp ks xs=>obtain⟨aX,es,clk,h1,h2,h3,_⟩:=bA;rw[h1]at hc;cases hc;exact⟨C9 h3,h2,trivial⟩
theorem Kh (hi:Inv w g σ) {b aA:Nat} {vs vs':Array Value} {e:TypeId} (hb:g.β b=some (some aA)) (hh:w.heap[aA]?=some (.cells vs e (0,0))) (hs:vs'.size=vs.size)
  (hw:Sets w w' aA vs' e) {B:Blk} (hk:(∃cs,look σ b=some (.cells cs))-> ∃cs,B=.cells cs) (hB:(∀v x,Rel w g v x->Rel w' g v x)->Fh w' g b B):
  Ext w g w' g/\Inv w' g (upd σ b B)/\(∀v x,Rel w g v x->Rel w' g v x):=by
 have eP:=(EX hi hb).2.1
 have eN: ∀c p,w.shape? c=some p->w'.shape? c=some p:=by
  intro c p hp;by_cases e':c=aA
  ·subst e';simp only[World.shape?,hh]at hp;simp only[World.shape?,hw.new,hs];exact hp
  ·rw[GP (hw.old c e')];exact hp
 have aG:Ext w g w' g:=⟨by rw[hw.size];omega,λc _ hc=>hw.old c (λe'=>hc (e'▸eP)),λ_ _ h=>h,λ_ _=>A6h,eN,λ_ h=>⟨h,rfl⟩,⟨rfl,hw.same⟩,Hu (λ_ _ _ _ h=>h) (λc e _ _ h=>hw.old c (λe'=>by subst e';rw[hi.sx.bs _ _ hb]at h;cases h))⟩
 have hr: ∀v x,Rel w g v x->Rel w' g v x:=λv x h=>h.mono aG.keeps (λ_ _ h=>h) eN;refine⟨aG,⟨?_,?_,hi.inj,λc hc=>by rw[hw.size];exact hi.lt c hc,λc hc=>⟨(hi.bx c hc).1,?_⟩,hi.dis,hi.im_of aG.keeps,by rw[hw.size];exact hi.lo,hi.sx.mono (by rw[hw.size];exact WW _) rfl (λ_ _ _ h=>h) (λc e h _ _=>hw.old c (λe'=>by subst e';rw[hi.sx.bs _ _ hb]at h;cases h)) (λc aA h=>.inl ⟨c,h⟩) (λc L hL=>?_)⟩,hr⟩
 ·intro c C hC;rw[AK]at hC;split at hC
  ·rename_i e';subst e';simp at hC;subst hC;exact hB hr
  ·rename_i aE;refine(hi.ok c C hC).mono rfl (λ_ _ h=>h) (λaX cN=>hw.old _ ?_) hr;intro e';subst e';exact aE (hi.inj _ _ _ hb cN)
 ·intro c;rw[AK];by_cases e':b=c
  ·subst e';simp[hb]
  ·simp only[Ug e'];exact hi.dom c
 ·rw[AK];by_cases e':b=c
  ·subst e';obtain⟨cs,h⟩:=hk (hi.bx b hc).2;exact⟨cs,by simp[h]⟩
  ·simp only[Ug e'];exact(hi.bx c hc).2
 ·rw[AK]at hL;split at hL
  ·rename_i e';subst e';simp at hL;subst hL;have h1:g.β b=some none:=hB hr;rw[h1]at hb;cases hb
  ·exact hL
def Gu (b:Nat):List AV->List AV
 |[]=>[]
 |x::r=>(bif x.has b then .top else x)::Gu b r
def Gv (b:Nat):A2->A2
 |[]=>[]
 |(t,x)::r=>(t,bif x.has b then .top else x)::Gv b r
def CX (b:Nat):St->St
 |[]=>[]
 |(c,B)::r=>bif Nat.beq c b then CX b r else(c,match B with
  |.cells cs=>.cells (Gu b cs)
  |.loop l st pe ps asg bd n env=>.loop l st pe ps asg bd n (Gv b env)
  |.mp ks xs=>.mp ks (Gu b xs)
  |B=>B)::CX b r
theorem OR (b:Nat): ∀l,(Gu b l).length=l.length
 |[]=>rfl
 |x::r=>by simp[Gu,OR b r]
theorem OS {b:Nat}: ∀{l:List AV} {i:Nat} {x:AV},(Gu b l)[i]?=some x-> ∃y,l[i]?=some y/\((x=y/\y.has b=false)\/x=.top)
 |[],i,x,h=>by simp[Gu]at h
 |y::r,0,x,h=>by
  simp only[Gu,List.getElem?_cons_zero,A26]at h;refine⟨y,rfl,?_⟩
  cases hy:y.has b with
  |false=>rw[hy]at h;exact .inl ⟨h.symm,rfl⟩
  |true=>rw[hy]at h;exact .inr h.symm
 |y::r,i+1,x,h=>by
  simp only[Gu,A5z]at h;obtain⟨z,h1,h2⟩:=OS h;exact⟨z,by simpa using h1,h2⟩
theorem OT {b:Nat}: ∀{l:A2} {t:Nat} {x:AV},look (Gv b l) t=some x-> ∃y,look l t=some y/\((x=y/\y.has b=false)\/x=.top)
 |[],t,x,h=>by simp[Gv,look]at h
 |(k,y)::r,t,x,h=>by
  simp only[Gv]at h;rw[Ap]at h;rw[Ap];split at h
  ·rename_i e;simp only[A26]at h;refine⟨y,by simp[e],?_⟩
   cases hy:y.has b with
   |false=>rw[hy]at h;exact .inl ⟨h.symm,rfl⟩
   |true=>rw[hy]at h;exact .inr h.symm
  ·rename_i e;obtain⟨z,h1,h2⟩:=OT h;exact⟨z,by simp[e,h1],h2⟩
def As0 (b:Nat) (B:Blk):Blk:=match B with
  |.cells cs=>.cells (Gu b cs)
  |.loop l st pe ps asg bd n env=>.loop l st pe ps asg bd n (Gv b env)
  |.mp ks xs=>.mp ks (Gu b xs)
  |B=>B
theorem DL {b:Nat}: ∀(l:St) (c:Nat),look (CX b l) c=if c=b then none else(look l c).map (As0 b)
 |[],c=>by simp[CX,look]
 |(k,B)::r,c=>by
  by_cases h:k=b
  ·subst h;simp only[CX,A7a,A6x];rw[DL r c,Ap];by_cases h2:c=k
   ·simp[h2]
   ·simp[h2,A6f h2]
  ·have hb:Nat.beq k b=false:=by
    cases hb:Nat.beq k b with
    |false=>rfl
    |true=>exact absurd (A4f hb) h
   simp only[CX,hb,A61];rw[Ap,Ap,DL r c];by_cases h2:k=c
   ·subst h2;simp[h];cases B<;>rfl
   ·simp[h2]
def G.without (g:G) (b:Nat):G:={g with β:=λc=>if c=b then none else g.β c}
theorem Rel.without {b:Nat} {v:Value} {x:AV} (h:Rel w g v x) (hx:x.has b=false):Rel w (g.without b) v x:=
 Rel.mono_but (w:=w) (w':=w) (g:=g) (g':=g.without b) b (λ_ _ _ h1 h2=>⟨h1,h2⟩) (λc p aE hc=>by simp[G.without,aE,hc]) (λ_ _ h=>h) h hx
theorem Yq (hi:Inv w g σ) (b:Nat) (c8: ¬g.bx b):Ext w g w (g.without b)/\Inv w (g.without b) (CX b σ)/\ ∀a env,AQ w g a env->AQ w (g.without b) a (Gv b env):=by
 have aE: ∀c,g.bx c->c≠b:=λc hc e=>c8 (e▸hc);refine⟨⟨WW _,λ_ _ _=>rfl,λ_ _ h=>h,λ_ _=>A6h,λ_ _ h=>h,λc hc=>⟨hc,by simp[G.without,aE c hc]⟩,⟨rfl,rfl,rfl⟩,Hu (λ_ _ _ _ h=>h) (λ_ _ _ _ _=>rfl)⟩,⟨?_,?_,?_,hi.lt,λc hc=>⟨(hi.bx c hc).1,?_⟩,hi.dis,hi.im,hi.lo,hi.sx.mono (WW _) rfl (λ_ _ _ h=>h) (λ_ _ _ _ _=>rfl) (λc aA h=>?_) (λc L hL=>?_)⟩,?_⟩
 ·intro c C hC;rw[DL]at hC;split at hC
  ·simp at hC
  ·rename_i aE
   cases hl:look σ c with
   |none=>simp[hl]at hC
   |some D=>
    simp only[hl,A4g,A26]at hC;subst hC;have bA:=hi.ok c D hl
    cases D with
    |cells cs=>
     obtain⟨aA,vs,e,h1,h2,h3,h4,h5⟩:=bA;refine⟨aA,vs,e,by simp[G.without,aE,h1],h2,h3,by rw[OR];exact h4,λi v x hv hx=>?_⟩;obtain⟨y,hy,h|h⟩:=OS hx
     ·obtain⟨rfl,hh⟩:=h;exact(h5 i v _ hv hy).without hh
     ·subst h;exact .top v
    |grow sz es=>
     obtain⟨h0,h⟩:=bA;refine⟨h0,?_⟩;rcases h with⟨h1,h2⟩|⟨aA,vs,e,h1,h2,h3,h4,h5⟩
     ·exact .inl ⟨by simp[G.without,aE,h1],h2⟩
     ·exact .inr ⟨aA,vs,e,by simp[G.without,aE,h1],h2,h3,h4,h5⟩
    |rights L=>have h1:g.β c=some none:=bA;show(g.without b).β c=some none;simp[G.without,aE,h1]
    |loop l st pe ps asg bd n env=>
     obtain⟨r,h1,h2,h3,h4,h5,h6⟩:=bA;refine⟨r,by simp[G.without,aE,h1],h2,h3,h4,h5,λt x ht=>?_⟩;obtain⟨y,hy,h|h⟩:=OT ht
     ·obtain⟨rfl,hh⟩:=h;exact(h6 t _ hy).without hh
     ·subst h;exact .top _
    |mp ks xs=>
     obtain⟨aA,es,clk,h1,h2,h3,h4,h5,h6,h7⟩:=bA;refine⟨aA,es,clk,by simp[G.without,aE,h1],h2,h3,h4,by rw[OR];exact h5,h6,λi e x he hx=>?_⟩;obtain⟨y,hy,h|h⟩:=OS hx
     ·obtain⟨rfl,hh⟩:=h;exact(h7 i e _ he hy).without hh
     ·subst h;exact .top _
 ·intro c;rw[DL];by_cases e:c=b
  ·simp[e,G.without]
  ·simp only[Ug e,G.without];rw[<-hi.dom c];cases look σ c<;>rfl
 ·intro c c' aA h1 h2;simp only[G.without]at h1 h2;split at h1
  ·cases h1
  ·split at h2
   ·cases h2
   ·exact hi.inj _ _ _ h1 h2
 ·obtain⟨cs,h⟩:=(hi.bx c hc).2;exact⟨Gu b cs,by rw[DL,Ug (aE c hc),h];rfl⟩
 ·simp only[G.without]at h;split at h
  ·cases h
  ·exact .inl ⟨c,h⟩
 ·rw[DL]at hL;split at hL
  ·cases hL
  ·cases hl:look σ c with
   |none=>simp[hl]at hL
   |some D=>
    simp only[hl,A4g,A26]at hL;cases D<;>simp[As0]at hL
    subst hL;rfl
 ·intro a env he t x hx;obtain⟨y,hy,h|h⟩:=OT hx
  ·obtain⟨rfl,hh⟩:=h;exact(he t _ hy).without hh
  ·subst h;exact .top _
end
end
end Go.Am
namespace Go.Am
structure Cfg where
 te:TE
 imm:List Nat
 own:List Nat
def T0:AV->Bool
 |.t x=>CV x
 |.top=>false
 |.agg _=>false
 |.tuple _=>false
 |_=>true
def Dq:List AV->Bool
 |[]=>true
 |x::r=>T0 x&&Dq r
def Af:List T->List AV
 |[]=>[]
 |x::r=>.t x::Af r
def II (x:AV):Option (List AV):=
 match x with
 |.agg cs=>bif Dq cs then some cs else none
 |.t (.agg ts)=>bif Dq (Af ts)then some (Af ts)else none
 |x=>bif T0 x then some [x]else none
def F3 {α:Type} (cs:List α) (off:Nat) (new:List α):List α:=cs.take off++(new++cs.drop (off+new.length))
def Dx (env:A2):List (Nat×Operand)->Option (List (Nat×AV))
 |[]=>some []
 |(i,x)::r=>match ev env x with
  |some y=>match Dx env r with
   |some ys=>some ((i,y)::ys)
   |none=>none
  |none=>none
def G4 (place:Nat->Option (Nat×Nat)):List (Nat×AV)->List AV->Option (List AV)
 |[],cs=>some cs
 |(i,x)::r,cs=>match place i with
  |some (off,size)=>match II x with
   |some ys=>if ys.length=size then(if off+size<=cs.length then G4 place r (F3 cs off ys)else none)else none
   |none=>none
  |none=>none
def LB (te:TE):List (Nat×Nat)->Bool
 |[]=>true
 |(_,t)::r=>match look te t with
  |some _=>LB te r
  |none=>false
def MJ (te:TE) (fs:List (Nat×Nat)) (i:Nat):Option (Nat×Nat):=
 match fs[i]? with
 |some (off,t)=>match look te t with
  |some ti=>some (off,ti.size)
  |none=>none
 |none=>none
def MZ (te:TE) (t:Nat) (env:A2) (parts:List (Nat×Operand)):Option AV:=
 match look te t with
 |some ti=>match ti.kind with
  |.struct fs=>bif LB te fs then(match Dx env parts with
   |some ps=>match G4 (MJ te fs) ps (Af ti.zero)with
    |some cs=>some (.agg cs)
    |none=>none
   |none=>none)else none
  |.array _ e=>(match look te e with
   |some ei=>(match Dx env parts with
    |some ps=>match G4 (λi=>some (i*ei.size,ei.size)) ps (Af ti.zero)with
     |some cs=>some (.agg cs)
     |none=>none
    |none=>none)
   |none=>none)
  |_=>none
 |none=>none
def N9 {α:Type} (z:List α):Nat->List α
 |0=>[]
 |n+1=>z++N9 z n
def CH {α:Type} (sz:Nat):Nat->List α->List (List α)
 |0,_=>[]
 |n+1,l=>l.take sz::CH sz n (l.drop sz)
def Ep (te:TE) (t n:Nat) (env:A2) (parts:List (Nat×Operand)):Option AV:=
 match look te t with
 |some ⟨_,_,_,.slice e⟩=>match look te e with
  |some ei=>if n*ei.size<=16777216 then(match Dx env parts with
   |some ps=>match G4 (λi=>some (i*ei.size,ei.size)) ps (Af (N9 ei.zero n))with
    |some cs=>match allT cs with
     |some ts=>(match n with
      |0=>some (.t (.slice .full 0 []))
      |n+1=>some (.t (.slice .full ei.size (CH ei.size (n+1) ts))))
     |none=>none
    |none=>none
   |none=>none)else none
  |none=>none
 |_=>none
def I6 (te:TE) (t:Nat) (p:AV) (σ:St):Option AV:=
 match look te t with
 |some ti=>match p with
  |.ref b off=>match look σ b with
   |some (.cells cs)=>match ti.kind.agg with
    |true=>match F9 ti.size (cs.drop off)with
     |some ys=>some (.agg ys)
     |none=>none
    |false=>cs[off]?
   |_=>none
  |.eref b sz k off=>match look σ b with
   |some (.grow cO es)=>if sz=cO then(match es[k]? with
    |some e=>match ti.kind.agg with
     |true=>match F9 ti.size (e.drop off)with
      |some ys=>some (.agg (Af ys))
      |none=>none
     |false=>match e[off]? with
      |some y=>some (.t y)
      |none=>none
    |none=>none)else none
   |_=>none
  |.t (.ptr cs)=>match ti.kind.agg with
   |true=>match F9 ti.size cs with
    |some ys=>some (.agg (Af ys))
    |none=>none
   |false=>match cs with
    |y::_=>some (.t y)
    |[]=>none
  |_=>none
 |none=>none
def F0 (te:TE) (t:Nat) (p x:AV) (σ:St):Option St:=
 match look te t with
 |some ti=>match II x with
  |some ys=>if ys.length=ti.size then(match p with
   |.ref b off=>match look σ b with
    |some (.cells cs)=>if off+ti.size<=cs.length then some (upd σ b (.cells (F3 cs off ys)))else none
    |_=>none
   |.eref b sz k off=>match look σ b with
    |some (.grow cO es)=>if sz=cO then(match es[k]? with
     |some e=>match allT ys with
      |some ts=>if off+ti.size<=sz then some (upd σ b (.grow cO (es.set k (F3 e off ts))))else none
      |none=>none
     |none=>none)else none
    |_=>none
   |_=>none)else none
  |none=>none
 |none=>none
def Kl (n:Nat):List Nat->Bool
 |[]=>false
 |k::r=>bif Nat.beq k n then true else Kl n r
def E1 {R:Type} (lab:Nat) (env:A2) (σ:St) (k:A2->St->Option R):Option R:=
 match look σ lab with
 |none=>k env σ
 |some _=>k (Gv lab env) (CX lab σ)
def LO (lab:Nat) (env:A2) (σ:St) (cs:List AV):Option (AV×A2×St):=some (.ref lab 0,env,(lab,.cells cs)::σ)
def Jb (σ:St) (sz:Nat) (x:AV):Option (List (List T)):=
 match x with
 |.t (.slice _ cO es)=>if sz=cO then some es else(match es with
  |[]=>some []
  |_::_=>none)
 |.row b cO lo len=>match look σ b with
  |some (.grow sz'' es)=>if sz=cO then(if sz=sz'' then(if lo+len<=es.length then some ((es.drop lo).take len)else none)else none)else none
  |_=>none
 |_=>none
def Ia (te:TE) (t:Nat) (dst:Nat) (s x:AV) (env:A2) (σ:St):Option (AV×A2×St):=
 match look te t with
 |some ⟨_,_,_,.slice e⟩=>match look te e with
  |some ei=>match Jb σ ei.size x with
   |some news=>match s with
    |.t (.slice .nil _ _)=>if news.length*(ei.bytes+1)<=140737488355328 then
      E1 (2*dst) env σ (λenv σ=>some (.row (2*dst) ei.size 0 news.length,env,(2*dst,.grow ei.size news)::σ))else none
    |.t (.slice .full cO es)=>(match cO with
     |0=>(match es with
      |[]=>if news.length*(ei.bytes+1)<=140737488355328 then
       E1 (2*dst) env σ (λenv σ=>some (.row (2*dst) ei.size 0 news.length,env,(2*dst,.grow ei.size news)::σ))else none
      |_::_=>none)
     |_+1=>if cO=ei.size then(if(es.length+news.length)*(ei.bytes+1)<=140737488355328 then
       some (.t (.slice .any ei.size (es++news)),env,σ)else none)else none)
    |.row b sz lo len=>match look σ b,lo with
     |some (.grow cO es),0=>if sz=ei.size then(if cO=ei.size then(if len<=es.length then(if(len+news.length)*(ei.bytes+1)<=140737488355328 then
       some (.row b sz 0 (len+news.length),Gv b env,(b,.grow sz (es.take len++news))::CX b σ)else none)else none)else none)else none
     |_,_=>none
    |_=>none
   |none=>none
  |none=>none
 |_=>none
def So (te:TE) (t:Nat) (dst:Nat) (l c:AV) (env:A2) (σ:St):Option (AV×A2×St):=
 match look te t with
 |some ⟨_,_,_,.slice e⟩=>match look te e with
  |some ei=>match l with
   |.t (.int _ l)=>match Mp l with
    |some l=>match c with
     |.t (.int _ c)=>match Mp c with
      |some c=>if l<=c then(if c*(ei.bytes+1)<=140737488355328 then
        E1 (2*dst) env σ (λenv σ=>some (.row (2*dst) ei.size 0 l,env,(2*dst,.grow ei.size (List.replicate l ei.zero))::σ))else none)else none
      |none=>none
     |_=>none
    |none=>none
   |_=>none
  |none=>none
 |_=>none
def Gp (c:Cfg) (o:Oper) (env:A2) (σ:St):Option (AV×A2×St):=
 match o.op with
 |.alloc t=>match o.dst with
  |some d=>match look c.te t with
   |some ti=>E1 (2*d) env σ (λenv σ=>LO (2*d) env σ (Af ti.zero))
   |none=>none
  |none=>none
 |.box t x=>match o.dst with
  |some d=>match Kl t c.imm with
   |true=>match ev env x with
    |some y=>match II y with
     |some cs=>match allT cs with
      |some ts=>some (.t (.ptr ts),env,σ)
      |none=>none
     |none=>none
    |none=>none
   |false=>E1 (2*d) env σ (λenv σ=>match ev env x with
    |some y=>match II y with
     |some cs=>LO (2*d) env σ cs
     |none=>none
    |none=>none)
  |none=>none
 |.build t parts=>match MZ c.te t env parts.toList with
  |some x=>some (x,env,σ)
  |none=>none
 |.buildSlice t n parts=>match Ep c.te t n env parts.toList with
  |some x=>some (x,env,σ)
  |none=>none
 |.load t p=>match ev env p with
  |some q=>match I6 c.te t q σ with
   |some x=>some (x,env,σ)
   |none=>none
  |none=>none
 |.store t p x=>match ev env p with
  |some q=>match ev env x with
   |some y=>match F0 c.te t q y σ with
    |some σ'=>some (.t .undef,env,σ')
    |none=>none
   |none=>none
  |none=>none
 |.makeSlice t l k=>match o.dst with
  |some d=>match ev env l with
   |some p=>match ev env k with
    |some q=>So c.te t d p q env σ
    |none=>none
   |none=>none
  |none=>none
 |.call cl=>match cl.callee with
  |.builtin .append=>match cl.args.toList with
   |[s,x]=>match ev env s with
    |some p=>match ev env x with
     |some q=>match cl.argTypes.toList with
      |[t,t']=>match o.dst with
       |some d=>if t=t' then Ia c.te t d p q env σ else none
       |none=>none
      |_=>none
     |none=>none
    |none=>none
   |_=>none
  |_=>none
 |_=>none
def JD (kk:IntKind) (n:Int):List T->Nat->Option (Option Nat)
 |[],_=>some none
 |.int k' b::r,i=>if kk=k' then(if n=b then some (some i)else JD kk n r (i+1))else none
 |_::_,_=>none
def UD (te:TE) (t:Nat):Option Nat:=
 match look te t with
 |some ⟨_,_,_,.map kt et⟩=>match look te kt with
  |some ⟨_,_,_,.int _⟩=>some et
  |_=>none
 |_=>none
def Ac0 (ti:TI):AV:=bif ti.kind.agg then .agg (Af ti.zero)else .t (ti.zero.headD .undef)
def LR (te:TE) (et:Nat) (ok:Bool) (kk:IntKind) (n:Int) (ks:List T) (xs:List AV):Option AV:=
 match JD kk n ks 0 with
 |some (some i)=>match xs[i]? with
  |some y=>some (bif ok then .tuple [y,.t (.bool true)]else y)
  |none=>none
 |some none=>match look te et with
  |some ei=>some (bif ok then .tuple [Ac0 ei,.t (.bool false)]else Ac0 ei)
  |none=>none
 |none=>none
def Ak8 (σ:St) (b:Nat) (kk:IntKind) (n:Int) (y:AV):Option St:=
 match look σ b with
 |some (.mp ks xs)=>match JD kk n ks 0 with
  |some none=>some (upd σ b (.mp (ks++[.int kk n]) (xs++[y])))
  |some (some i)=>some (upd σ b (.mp ks (xs.set i y)))
  |none=>none
 |_=>none
def Ak9 (σ:St) (b:Nat) (kk:IntKind) (n:Int):Option St:=
 match look σ b with
 |some (.mp ks xs)=>match JD kk n ks 0 with
  |some none=>some (upd σ b (.mp ks xs))
  |some (some i)=>some (upd σ b (.mp (ks.eraseIdx i) (xs.eraseIdx i)))
  |none=>none
 |_=>none
def QN (te:TE) (t:Nat) (m k v:Operand) (env:A2) (σ:St):Option (AV×A2×St):=
 match UD te t with
 |some _=>match ev env m with
  |some (.mref b)=>match ev env k with
   |some (.t (.int kk n))=>match ev env v with
    |some y=>match Ak8 σ b kk n y with
     |some σ'=>some (.t .undef,env,σ')
     |none=>none
    |none=>none
   |_=>none
  |_=>none
 |none=>none
def VY (c:Cfg) (o:Oper) (env:A2) (σ:St):Option (AV×A2×St):=
 match o.op with
 |.makeMap t r=>match r with
  |none=>match o.dst with
   |some d=>E1 (2*d) env σ (λenv σ=>some (.mref (2*d),env,(2*d,.mp [] [])::σ))
   |none=>none
  |some _=>none
 |.insert t m k v=>QN c.te t m k v env σ
 |.mapUpdate t m k v=>QN c.te t m k v env σ
 |.lookup t m k ok=>match UD c.te t with
  |some et=>match ev env k with
   |some (.t (.int kk n))=>match ev env m with
    |some (.mref b)=>match look σ b with
     |some (.mp ks xs)=>match LR c.te et ok kk n ks xs with
      |some y=>some (y,env,σ)
      |none=>none
     |_=>none
    |some (.t .nilMap)=>match LR c.te et ok kk n [] []with
     |some y=>some (y,env,σ)
     |none=>none
    |_=>none
   |_=>none
  |none=>none
 |.call cl=>match cl.callee with
  |.builtin .len=>match cl.args.toList with
   |[m]=>match cl.argTypes.toList with
    |t::_=>match look c.te t with
     |some ⟨_,_,_,.map _ _⟩=>match ev env m with
      |some (.mref b)=>match look σ b with
       |some (.mp ks _)=>some (.t (.int .i64 (ks.length:Int)),env,σ)
       |_=>none
      |some (.t .nilMap)=>some (.t (.int .i64 0),env,σ)
      |_=>none
     |_=>none
    |_=>none
   |_=>none
  |.builtin .delete=>match cl.args.toList with
   |[m,k]=>match cl.argTypes.toList with
    |t::_=>match UD c.te t with
     |some _=>match ev env m with
      |some (.mref b)=>match ev env k with
       |some (.t (.int kk n))=>match Ak9 σ b kk n with
        |some σ'=>some (.tuple [],env,σ')
        |none=>none
       |_=>none
      |_=>none
     |none=>none
    |_=>none
   |_=>none
  |_=>none
 |_=>none
end Go.Am
namespace Go.Am
theorem He {w:World} {M:Nat->Nat->Prop} {v:Value} {x:T} (h:RelT w M v x) (h1:CV x=true):v.oneCell'=true/\v.cells= #[v]:=by
 cases h<;>simp[CV]at h1<;>simp[Value.oneCell',Value.cells]
theorem XP {w:World} {g:G} {v:Value} {x:AV} (h:Rel w g v x) (h1:T0 x=true):v.oneCell'=true/\v.cells= #[v]:=by
 cases h with
 |t v x h=>exact He h h1
 |top=>simp[T0]at h1
 |agg=>simp[T0]at h1
 |tuple=>simp[T0]at h1
 |_=>simp[Value.oneCell',Value.cells]
theorem CK: ∀(ts:List T) (i:Nat),(Af ts)[i]?=(ts[i]?).map AV.t
 |[],i=>by simp[Af]
 |x::r,0=>by simp[Af]
 |x::r,i+1=>by simp[Af,CK r i]
theorem Bz: ∀(ts:List T),(Af ts).length=ts.length
 |[]=>rfl
 |x::r=>by simp[Af,Bz r]
theorem IL: ∀{l:List AV},Dq l=true-> ∀(i:Nat) x,l[i]?=some x->T0 x=true
 |[],_,i,x,h=>by simp at h
 |y::r,hf,i,x,h=>by
  simp only[Dq,Qp]at hf
  cases i with
  |zero=>simp at h;subst h;exact hf.1
  |succ i=>simp at h;exact IL hf.2 i x h
theorem BB.one {w:World} {g:G} {vs:List Value} {xs:List AV} (h:BB w g vs xs) (ho:Dq xs=true): ∀v∈vs,v.oneCell'=true:=by
 intro v hv;obtain⟨i,hi,rfl⟩:=A7d hv;have hx:i<xs.length:=by rw[<-h.1];exact hi
 exact(XP (h.2 i _ _ (Kv hi) (Kv hx)) (IL ho i _ (Kv hx))).1
theorem K7 {w:World} {g:G} {v:Value} {x:AV} {cs:List AV} (h:Rel w g v x) (hc:II x=some cs):
  BB w g v.cells.toList cs/\Dq cs=true:=by
 unfold II at hc;split at hc
 ·rename_i ds
  cases ho:Dq ds with
  |false=>rw[ho]at hc;simp at hc
  |true=>
   rw[ho]at hc;simp at hc;subst hc
   cases h with
   |agg vs _ hl hr=>exact⟨(⟨hl,hr⟩:BB w g vs ds),ho⟩
 ·rename_i ts
  cases ho:Dq (Af ts)with
  |false=>rw[ho]at hc;simp at hc
  |true=>
   rw[ho]at hc;simp at hc;subst hc
   cases Av h with
   |agg vs _ hl hr=>
    refine⟨⟨by simp[Value.cells,Bz,hl],λi u y hu hy=>?_⟩,ho⟩;rw[CK]at hy
    cases ht:ts[i]? with
    |none=>simp[ht]at hy
    |some z=>
     simp[ht]at hy;subst hy;simp[Value.cells]at hu;exact .t _ _ (hr i u z hu ht)
 ·cases ho:T0 x with
  |false=>rw[ho]at hc;simp at hc
  |true=>
   rw[ho]at hc;simp at hc;subst hc;have h1:=XP h ho;rw[h1.2];refine⟨⟨rfl,λi u y hu hy=>?_⟩,by simp[Dq,ho]⟩
   cases i with
   |zero=>simp at hu hy;subst hu;subst hy;exact h
   |succ i=>simp at hu
theorem BB.mono {w w':World} {g g':G} {vs:List Value} {xs:List AV} (h:BB w g vs xs) (hr: ∀v x,Rel w g v x->Rel w' g' v x):BB w' g' vs xs:=
 ⟨h.1,λi v x hv hx=>hr _ _ (h.2 i v x hv hx)⟩
theorem AQ.mono {w w':World} {g g':G} {a:Act} {env:A2} (h:AQ w g a env) (hr: ∀v x,Rel w g v x->Rel w' g' v x):AQ w' g' a env:=
 λt x hx=>hr _ _ (h t x hx)
def FI (w:World) (g:G) (a:Act) (x:AV) (env:A2) (σ:St) (v:Value) (w':World):Prop:=
 ∃g',Ext w g w' g'/\Rel w' g' v x/\Inv w' g' σ/\AQ w' g' a env
theorem Ho {w:World} {g:G} {σ:St} {R:Type} {lab:Nat} {env:A2} {k:A2->St->Option R} {r:R} (h:E1 (2*lab) env σ k=some r) (hi:Inv w g σ) {a:Act} (he:AQ w g a env):
  ∃aV σ1 g1,k aV σ1=some r/\look σ1 (2*lab)=none/\Ext w g w g1/\Inv w g1 σ1/\AQ w g1 a aV:=by
 unfold E1 at h;split at h
 ·rename_i hl;exact⟨env,σ,g,h,hl,A3h _ _,hi,he⟩
 ·obtain⟨h1,h2,h3⟩:=Yq hi (2*lab) (λhb=>by have:=(hi.bx _ hb).1;omega);exact⟨_,_,_,h,by rw[DL];simp,h1,h2,h3 a env he⟩
theorem FI.lift {w w':World} {g g1:G} {a:Act} {x:AV} {env:A2} {σ:St} {v:Value} (h1:Ext w g w g1) (h:FI w g1 a x env σ v w'):FI w g a x env σ v w':=by
 obtain⟨g',h2,h3⟩:=h;exact⟨g',h1.trans h2,h3⟩
theorem TO {w w':World} {g:G} {lab e:Nat} {vs:Array Value} {cs:List AV} (hm:More w w' (.cells vs e (0,0))) (hr:BB w g vs.toList cs)
  (bQ: ∀v x,Rel w g v x->Rel w' (g.with lab (some w.heap.size)) v x):Fh w' (g.with lab (some w.heap.size)) lab (.cells cs):=by
 refine⟨w.heap.size,vs,e,by simp[G.with],.inr rfl,hm.new,by rw[<-hr.1];simp,λi v x hv hx=>bQ _ _ (hr.2 i v x ?_ hx)⟩;rw[Agx];exact hv
theorem Vm {P:Program} {w:World} {g:G} {σ:St} {a:Act} {env:A2} {o:Oper} {lab e:Nat} {u:Value} {cs:List AV} (hi:Inv w g σ) (he:AQ w g a env) (hl:look σ lab=none)
  (hc:BB w g u.cells.toList cs) (aM:(execOp a.eval o).run P w=.ok (.value (.pointer (some ⟨w.heap.size,0,none⟩))) (w.alloc (.cells u.cells e))):
  BN P o a w (FI w g a (.ref lab 0) env ((lab,.cells cs)::σ)):=by
 have hm:=More.alloc w (.cells u.cells e);obtain⟨h1,h2,h3⟩:=HS hi hl hm (B:=.cells cs) (λhr=>TO hm hc hr);exact BN.value aM ⟨_,h1,.ref _ _ _ (by simp[G.with]),h2,he.mono h3⟩
theorem DN {P:Program} {w:World} {g:G} {t:Nat} {ti:TI} (h:TeOk1 P t ti):BB w g (BJ ti).cells.toList (Af ti.zero):=by
 have hc: ∀(i:Nat) x,ti.zero[i]?=some x->GV x=true:=by
  intro i x hx;have:=h.const;rw[A21]at this;exact this x (Apj hx)
 unfold BJ
 cases ha:ti.kind.agg with
 |true=>
  simp only[A6x,Value.cells];refine⟨by simp[Bz],λi v x hv hx=>?_⟩;rw[CK]at hx;simp only[A42]at hv
  cases hz:ti.zero[i]? with
  |none=>simp[hz]at hx
  |some z=>
   simp[hz]at hv hx;subst hv;subst hx;exact .t _ _ (MF (hc i z hz))
 |false=>
  simp only[A61];have h1:=h.one ha;have aO:=h.len;rw[h1]at aO
  match hz:ti.zero,aO with
  |[z],_=>
   have u6:=hc 0 z (by rw[hz];rfl);simp only[List.headD];have:(ZB z).cells= #[ZB z]:=by cases z<;>simp[GV]at u6<;>simp[ZB,Value.cells,undef]
   rw[this];refine⟨rfl,λi v x hv hx=>?_⟩
   cases i with
   |zero=>simp[Af]at hv hx;subst hv;subst hx;exact .t _ _ (MF u6)
   |succ i=>simp at hv
theorem LK {w:World} {g:G} {σ:St} (hi:Inv w g σ) {b:Nat} {cs:List AV} (hl:look σ b=some (.cells cs)):
  ∃aA vs e,g.β b=some (some aA)/\w.heap[aA]?=some (.cells vs e (0,0))/\BB w g vs.toList cs:=by
 obtain⟨aA,vs,e,h1,_,h3,h4,h5⟩:=hi.ok b _ hl;exact⟨aA,vs,e,h1,h3,by simp[h4],λi v x hv hx=>h5 i v x (by rw[<-Agx];exact hv) hx⟩
theorem C7 {w:World} {aA:Nat} {vs:Array Value} {e:TypeId} {fr:Nat×Nat} (h:w.heap[aA]?=some (.cells vs e fr)) (i:Nat):w.cell? ⟨aA,i,none⟩=vs[i]?:=by
 simp[World.cell?,h]
theorem Jc {P:Program} {te:TE} (aH:Dr P te) {w:World} {t:Nat} {ti:TI} (hl:look te t=some ti) {b off:Nat} {vs:List Value} (hn:vs.length=ti.size)
  (hc: ∀(i:Nat) v,vs[i]?=some v->w.cell? ⟨b,off+i,none⟩=some v):
  (loadVar t ⟨b,off,none⟩).run P w=.ok (if ti.kind.agg then .agg vs.toArray else vs.headD undef) w:=by
 have qD:=Ur (aH _ _ hl) w;have aN:=C0 (aH _ _ hl) w
 cases ha:ti.kind.agg with
 |true=>
  have:=run_loadCells_list (P:=P) w ⟨b,off,none⟩ vs (λj v hv=>by rw[BS];exact hc j v hv);rw[hn]at this;simp[loadVar,qD,ha,aN,this]
 |false=>
  have h1:=(aH _ _ hl).one ha;rw[h1]at hn
  match vs,hn with
  |[v],_=>
   have:=hc 0 v rfl;simp at this;simp[loadVar,qD,ha,this]
section
variable {P:Program} {te:TE} {w:World} {g:G} {σ:St}
theorem Bu {α:Type} {l:List α} {i:Nat} {x:α} (h:l[i]?=some x):i<l.length:=by
 rcases A4i i l.length with h'|h'
 ·exact h'
 ·rw[A5w h']at h;simp at h
theorem Apb {vs:List Value} {cs:List AV} (hr:BB w g vs cs) {off n:Nat} {ys:List AV} (hy:F9 n (cs.drop off)=some ys):
  ∃us:List Value,us.length=n/\BB w g us ys/\ ∀(i:Nat) v,us[i]?=some v->vs[off+i]?=some v:=by
 obtain⟨e1,e2⟩:=Jy hy;refine⟨(vs.drop off).take n,?_,⟨?_,?_⟩,?_⟩
 ·subst e1;simp only[A2i,A43]at e2⊢;have:=hr.1;omega
 ·subst e1;simp only[A2i,A43]at e2⊢;have:=hr.1;omega
 ·intro i v x hv hx;subst e1;rw[Aoy]at hv hx;split at hv
  ·rename_i hi;rw[WU hi]at hx;rw[A4z]at hv hx;exact hr.2 _ v x hv hx
  ·simp at hv
 ·intro i v hv;rw[Aoy]at hv;split at hv
  ·rw[A4z]at hv;exact hv
  ·simp at hv
theorem Ik {us:List Value} {ts:List T} (hl:us.length=ts.length) (h: ∀(i:Nat) v x,us[i]?=some v->ts[i]?=some x->RelT w g.M v x):BB w g us (Af ts):=by
 refine⟨by rw[Bz];exact hl,λi v x hv hx=>?_⟩;rw[CK]at hx
 cases ht:ts[i]? with
 |none=>simp[ht]at hx
 |some z=>simp[ht]at hx;subst hx;exact .t _ _ (h i v z hv ht)
theorem Ie {ts:List T} {b off:Nat} {M:Nat->Nat->Prop} (h: ∀(i:Nat) x,ts[i]?=some x-> ∃u,w.cell? ⟨b,off+i,none⟩=some u/\RelT w M u x):
  ∃us:List Value,us.length=ts.length/\(∀(i:Nat) v,us[i]?=some v->w.cell? ⟨b,off+i,none⟩=some v)/\ ∀(i:Nat) v x,us[i]?=some v->ts[i]?=some x->RelT w M v x:=by
 refine⟨(List.range ts.length).map λi=>(w.cell? ⟨b,off+i,none⟩).getD undef,Ac,?_,?_⟩
 ·intro i v hv;rw[A42]at hv
  cases hi:(List.range ts.length)[i]? with
  |none=>simp[hi]at hv
  |some j=>
   have aC:=Bu hi;simp at aC;rw[A7e aC]at hi;simp at hi;subst hi;obtain⟨u,hu,_⟩:=h i _ (Kv aC);rw[A7e aC]at hv;simp[hu]at hv;subst hv;exact hu
 ·intro i v x hv hx;have aC:=Bu hx;obtain⟨u,hu,hr⟩:=h i x hx;rw[A42,A7e aC]at hv;simp[hu]at hv;subst hv;exact hr
theorem Sr (aH:Dr P te) (hi:Inv w g σ) {t:Nat} {u:Value} {p x:AV} (hp:Rel w g u p) (h:I6 te t p σ=some x):
  ∃v,(Instr.loadAt t u).run P w=.ok v w/\Rel w g v x:=by
 unfold I6 at h;split at h
 ·rename_i ti hl;have aU:=(aH _ _ hl).one;split at h
  ·rename_i b off
   cases hp with
   |ref _ _ aA hb=>
    split at h
    ·rename_i cs hs;obtain⟨aX,vs,e,h1,h2,h3⟩:=LK hi hs;rw[h1]at hb;cases hb
     have fin: ∀ys,F9 ti.size (cs.drop off)=some ys-> ∃us:List Value,us.length=ti.size/\BB w g us ys/\(loadVar t ⟨aA,off,none⟩).run P w=.ok (if ti.kind.agg then .agg us.toArray else us.headD undef) w:=by
      intro ys hy;obtain⟨us,u1,u2,u3⟩:=Apb h3 hy;refine⟨us,u1,u2,Jc aH hl u1 (λi v hv=>?_)⟩;rw[C7 h2,<-Agx];exact u3 i v hv
     split at h
     ·rename_i ha;split at h
      ·rename_i ys hy;simp at h;subst h;obtain⟨us,u1,u2,u3⟩:=fin ys hy;rw[ha]at u3;exact⟨_,by simpa[Instr.loadAt,Instr.sureAddr]using u3,.agg us ys u2.1 u2.2⟩
      ·simp at h
     ·rename_i ha;have aN:=aU ha;have aC:=Bu h
      have hy:F9 ti.size (cs.drop off)=some [x]:=by
       rw[aN,A67 aC];rw[Kv aC]at h;simp at h;simp[F9,h]
      obtain⟨us,u1,u2,u3⟩:=fin [x] hy;rw[ha]at u3;rw[aN]at u1
      match us,u1 with
      |[v],_=>
       exact⟨v,by simpa[Instr.loadAt,Instr.sureAddr]using u3,u2.2 0 v x rfl rfl⟩
    ·simp at h
  ·rename_i b sz k off
   cases hp with
   |eref _ _ _ _ aA hb=>
    split at h
    ·rename_i cO es hs;split at h
     ·rename_i dF;subst dF;split at h
      ·rename_i e he;have bA:=hi.ok b _ hs;obtain⟨aI,bA⟩:=bA;rcases bA with⟨hn,rfl⟩|⟨aX,vs,e',h1,h2,h3,h4,h5⟩
       ·simp at he
       ·rw[h1]at hb;cases hb
        have fX: ∀(i:Nat) y,(e.drop off)[i]?=some y-> ∃u,w.cell? ⟨aA,k*sz+off+i,none⟩=some u/\RelT w g.M u y:=by
         intro i y hy;rw[A4z]at hy;have eK:=Og sz es aI k e he _ y hy;have aC:=Bu eK
         have hv: ∃v,vs[k*sz+(off+i)]?=some v:=⟨vs[k*sz+(off+i)]' Aa,A23 _⟩
         obtain⟨v,hv⟩:=hv;refine⟨v,?_,(h5 _ v y hv eK).2⟩;rw[C7 h3,A7q];exact hv
        have fin: ∀ys,F9 ti.size (e.drop off)=some ys-> ∃us:List Value,us.length=ti.size/\BB w g us (Af ys)/\(loadVar t ⟨aA,k*sz+off,none⟩).run P w=.ok (if ti.kind.agg then .agg us.toArray else us.headD undef) w:=by
         intro ys hy;obtain⟨e1,e2⟩:=Jy hy
         obtain⟨us,u1,u2,u3⟩:=Ie (w:=w) (ts:=ys) (b:=aA) (off:=k*sz+off) (M:=g.M) (λi y hy=>fX i y (by
          subst e1;rw[Aoy]at hy;split at hy
          ·exact hy
          ·simp at hy))
         exact⟨us,by rw[u1,e2],Ik u1 u3,Jc aH hl (by rw[u1,e2]) u2⟩
        split at h
        ·rename_i ha;split at h
         ·rename_i ys hy;simp at h;subst h;obtain⟨us,u1,u2,u3⟩:=fin ys hy;rw[ha]at u3;exact⟨_,by simpa[Instr.loadAt,Instr.sureAddr]using u3,.agg us _ u2.1 u2.2⟩
         ·simp at h
        ·rename_i ha;have aN:=aU ha;split at h
         ·rename_i y hy;simp at h;subst h;have aC:=Bu hy
          have iA:F9 ti.size (e.drop off)=some [y]:=by
           rw[aN,A67 aC];rw[Kv aC]at hy;simp at hy;simp[F9,hy]
          obtain⟨us,u1,u2,u3⟩:=fin [y] iA;rw[ha]at u3;rw[aN]at u1
          match us,u1 with
          |[v],_=>exact⟨v,by simpa[Instr.loadAt,Instr.sureAddr]using u3,u2.2 0 v _ rfl rfl⟩
         ·simp at h
      ·simp at h
     ·simp at h
    ·simp at h
  ·rename_i cs;obtain⟨b,off,rfl,hc⟩:=GR (Av hp)
   have fin: ∀ys,F9 ti.size cs=some ys-> ∃us:List Value,us.length=ti.size/\BB w g us (Af ys)/\(loadVar t ⟨b,off,none⟩).run P w=.ok (if ti.kind.agg then .agg us.toArray else us.headD undef) w:=by
    intro ys hy;obtain⟨e1,e2⟩:=Jy hy
    obtain⟨us,u1,u2,u3⟩:=Ie (w:=w) (ts:=ys) (b:=b) (off:=off) (M:=g.M) (λi y hy=>(hc i y (by
     subst e1;rw[Aoy]at hy;split at hy
     ·exact hy
     ·simp at hy)).2.2)
    exact⟨us,by rw[u1,e2],Ik u1 u3,Jc aH hl (by rw[u1,e2]) u2⟩
   split at h
   ·rename_i ha;split at h
    ·rename_i ys hy;simp at h;subst h;obtain⟨us,u1,u2,u3⟩:=fin ys hy;rw[ha]at u3;exact⟨_,by simpa[Instr.loadAt,Instr.sureAddr]using u3,.agg us _ u2.1 u2.2⟩
    ·simp at h
   ·rename_i ha;have aN:=aU ha;split at h
    ·rename_i y r;simp at h;subst h;obtain⟨us,u1,u2,u3⟩:=fin [y] (by rw[aN];simp[F9]);rw[ha]at u3;rw[aN]at u1
     match us,u1 with
     |[v],_=>exact⟨v,by simpa[Instr.loadAt,Instr.sureAddr]using u3,u2.2 0 v _ rfl rfl⟩
    ·simp at h
  ·simp at h
 ·simp at h
end
end Go.Am
namespace Go.Am
section
variable {P:Program} {te:TE} {w:World} {g:G} {σ:St}
theorem Ha {α:Type} (cs:List α) (off:Nat) (new:List α) (h:off+new.length<=cs.length):(F3 cs off new).length=cs.length:=by
 simp[F3];omega
theorem R5 {α β:Type} (R:α->β->Prop) {vs:List α} {cs:List β} {us:List α} {ys:List β} {off:Nat} (hl:vs.length=cs.length) (hu:us.length=ys.length) (ho:off+us.length<=vs.length)
  (h1: ∀(i:Nat) v x,vs[i]?=some v->cs[i]?=some x->R v x) (h2: ∀(i:Nat) v x,us[i]?=some v->ys[i]?=some x->R v x):
  ∀(i:Nat) v x,(vs.take off++us++vs.drop (off+us.length))[i]?=some v->(F3 cs off ys)[i]?=some x->R v x:=by
 intro i v x hv hx;unfold F3 at hx;rw[A33]at hv;have eT:(vs.take off).length=off:=by simp;omega
 have sH:(cs.take off).length=off:=by simp;omega
 by_cases c1:i<off
 ·rw[Abh Aa,Aoy,WU c1]at hv;rw[Abh Aa,Aoy,WU c1]at hx;exact h1 i v x hv hx
 ·rw[Aez Aa,eT]at hv;rw[Aez Aa,sH]at hx;by_cases c2:i-off<us.length
  ·rw[Abh c2]at hv;rw[Abh Aa]at hx;exact h2 _ v x hv hx
  ·rw[Aez Aa,A4z]at hv;rw[Aez Aa,A4z]at hx;rw[show off+us.length+(i-off-us.length)=i from Aa]at hv;rw[show off+ys.length+(i-off-ys.length)=i from Aa]at hx;exact h1 i v x hv hx
theorem Nx (aH:Dr P te) {t:Nat} {ti:TI} (hl:look te t=some ti) {aA off:Nat} {e:TypeId} {vs:Array Value} (hh:w.heap[aA]?=some (.cells vs e (0,0))) {u:Value}
  (hn:u.cells.size=ti.size) (aU: ∀v∈u.cells.toList,v.oneCell'=true) (ho:off+ti.size<=vs.size):
  (storeVar t ⟨aA,off,none⟩ u).run P w=.ok () (w.setRow aA (vs.toList.take off++u.cells.toList++vs.toList.drop (off+u.cells.toList.length)).toArray):=by
 have aN:=C0 (aH _ _ hl) w;have cL:=A71 P aA off e u.cells.toList 0 vs w hh (by simp[hn];omega) aU;simp only[A80]at cL;simp[storeVar,aN,hn,cL]
theorem WY {α:Type} (sz:Nat): ∀(es:List (List α)) (k:Nat) (e e':List α),(∀e∈es,e.length=sz)->es[k]?=some e->e'.length=sz->(es.set k e').flatten=F3 es.flatten (k*sz) e'
 |[],k,e,e',_,h,_=>by simp at h
 |a::es,0,e,e',hs,h,hl=>by
  simp at h;subst h;have ha:=hs a Ac;simp only[List.set_cons_zero,A5g,F3,Nat.zero_mul,A6t,A6w,Atj];rw[show e'.length=a.length by rw[hl,ha]];simp
 |a::es,k+1,e,e',hs,h,hl=>by
  simp at h;have ha:=hs a Ac;have ih:=WY sz es k e e' (λe he=>hs e (by simp[he])) h hl;simp only[List.set_cons_succ,A5g,ih,F3];have h1:(k+1)*sz=a.length+k*sz:=by rw[ha,A58];omega
  rw[h1,A8r,A7q,A8s];simp[A33]
theorem Ae6 {α:Type} (l:List α) (p q:Nat) (new:List α) (e:List α) (he:e=(l.drop p).take e.length) (hq:q+new.length<=e.length) (hp:p+e.length<=l.length):
  F3 l p (F3 e q new)=F3 l (p+q) new:=by
 unfold F3;have aO:(e.take q++(new++e.drop (q+new.length))).length=e.length:=by simp;omega
 rw[aO]
 have h1:l.take (p+q)=l.take p++e.take q:=by
  rw[List.take_add,he,List.take_take,A7i Aa]
 have h2:l.drop (p+q+new.length)=e.drop (q+new.length)++l.drop (p+e.length):=by
  have:l.drop p=e++l.drop (p+e.length):=by
   have h3:=A5j e.length (l.drop p);rw[<-he,List.drop_drop]at h3;exact h3.symm
  rw[show p+q+new.length=p+(q+new.length)from Aa,<-List.drop_drop,this,A8o Aa]
 rw[h1,h2];simp[A33]
theorem Ox {l:List AV} {ts:List T} (h:allT l=some ts):l=Af ts:=by
 induction l generalizing ts with
 |nil=>simp[allT]at h;subst h;rfl
 |cons x r ih=>
  cases x<;>simp only[allT]at h<;>try(simp at h;done)
  split at h
  ·rename_i zs hz;simp at h;subst h;rw[Af,ih hz]
  ·simp at h
theorem An5 {α:Type} (A B:List α) (m i:Nat) (h:i<A.length+m):(A++B.take m)[i]?=(A++B)[i]?:=by
 by_cases c:i<A.length
 ·rw[Abh c,Abh c]
 ·rw[Aez Aa,Aez Aa,Aoy,WU Aa]
theorem KS (aH:Dr P te) (hi:Inv w g σ) {t:Nat} {u v:Value} {p x:AV} {σ':St} (hp:Rel w g u p) (hx:Rel w g v x) (h:F0 te t p x σ=some σ'):
  ∃w',(Instr.storeAt t u v).run P w=.ok () w'/\Ext w g w' g/\Inv w' g σ'/\(∀v x,Rel w g v x->Rel w' g v x):=by
 unfold F0 at h;split at h
 ·rename_i ti hl;split at h
  ·rename_i ys hy;obtain⟨iT,pZ⟩:=K7 hx hy;have aU:=iT.one pZ;split at h
   ·rename_i aO;have c7:v.cells.size=ti.size:=by rw[<-aO,<-iT.1];simp
    split at h
    ·rename_i b off
     cases hp with
     |ref _ _ aA hb=>
      split at h
      ·rename_i cs hs;split at h
       ·rename_i jE;simp at h;subst h;obtain⟨aX,vs,e,h1,h2,h3⟩:=LK hi hs;rw[h1]at hb;cases hb;have gT:vs.size=cs.length:=by rw[<-h3.1];simp
        have aM:=Nx (P:=P) aH hl (off:=off) h2 c7 aU Aa;have bU:=Sets.setRow h2 (vs.toList.take off++v.cells.toList++vs.toList.drop (off+v.cells.toList.length)).toArray
        obtain⟨k1,k2,k3⟩:=Kh hi h1 h2 (by simp;omega) bU (B:=.cells (F3 cs off ys)) (λ_=>⟨_,rfl⟩) (λhr=>by
         refine⟨aA,_,e,h1,(EX hi h1).2.1,bU.new,?_,?_⟩
         ·rw[Ha _ _ _ Aa];simp;omega
         ·intro i a y ha iA;refine hr _ _ (R5 (Rel w g) h3.1 iT.1 (by simp;omega) h3.2 iT.2 i a y ?_ iA)
          simpa using ha)
        exact⟨_,by simp[Instr.storeAt,Instr.sureAddr,aM],k1,k2,k3⟩
       ·simp at h
      ·simp at h
    ·rename_i b sz k off
     cases hp with
     |eref _ _ _ _ aA hb=>
      split at h
      ·rename_i cO es hs;split at h
       ·rename_i dF;subst dF;split at h
        ·rename_i e he;split at h
         ·rename_i ts fS;split at h
          ·rename_i jE;simp at h;subst h;obtain⟨aI,bA⟩:=hi.ok b _ hs;rcases bA with⟨hn,rfl⟩|⟨aX,vs,e',h1,h2,h3,h4,h5⟩
           ·simp at he
           ·rw[h1]at hb;cases hb;have mB:e.length=sz:=aI e (Apj he);obtain⟨t1,t2⟩:=iT.allT fS;have dY:ts.length=ti.size:=by rw[<-t1];simpa using c7
            have g8:=Bu he;have eK:=Cx sz es aI
            have sM:k*sz+sz<=es.flatten.length:=by
             rw[eK,<-A58];exact A5r _ g8
            have s8:e=(es.flatten.drop (k*sz)).take e.length:=by
             apply List.ext_getElem?;intro j;rw[Aoy,A4z];split
             ·rename_i hj;rw[Og sz es aI k e he j e[j] (Kv hj),Kv hj]
             ·rename_i hj;rw[A5w Aa]
            have lE:(es.set k (F3 e off ts)).flatten=F3 es.flatten (k*sz+off) ts:=by
             rw[WY sz es k e _ aI he (by rw[Ha _ _ _ Aa,mB]),Ae6 _ _ _ _ _ s8 Aa Aa]
            have aM:=Nx (P:=P) aH hl (off:=k*sz+off) h3 c7 aU Aa;have bU:=Sets.setRow h3 (vs.toList.take (k*sz+off)++v.cells.toList++vs.toList.drop (k*sz+off+v.cells.toList.length)).toArray
            have kQ: ∀e0∈es.set k (F3 e off ts),e0.length=sz:=by
             intro e0 h0;rcases List.mem_or_eq_of_mem_set h0 with h0|h0
             ·exact aI e0 h0
             ·rw[h0,Ha _ _ _ Aa,mB]
            have eH: ∀(i:Nat) z,ts[i]?=some z->CV z=true:=by
             intro i z hz;have:=IL pZ i (.t z) (by rw[Ox fS,CK,hz];rfl);exact this
            obtain⟨k1,k2,k3⟩:=Kh hi h1 h3 (by simp;omega) bU (B:=.grow sz (es.set k (F3 e off ts))) (λ⟨_,hc⟩=>by rw[hs]at hc;cases hc) (λhr=>by
             refine⟨kQ,.inr ⟨aA,_,e',h1,h2,bU.new,?_,?_⟩⟩
             ·rw[lE,Ha _ _ _ Aa];simp only[A2i,Xp,A43,A3b,A53];omega
             ·intro i a y ha iA;rw[lE]at iA
              have bC: ∀(i:Nat) a y,(vs.toList.take es.flatten.length)[i]?=some a->es.flatten[i]?=some y->CV y=true/\RelT w g.M a y:=by
               intro i a y ha hy;rw[Aoy]at ha;split at ha
               ·exact h5 i a y (by rw[<-Agx];exact ha) hy
               ·simp at ha
              have:=R5 (λa y=>CV y=true/\RelT w g.M a y) (vs:=vs.toList.take es.flatten.length) (cs:=es.flatten) (us:=v.cells.toList) (ys:=ts) (off:=k*sz+off) (by simp only[A2i,Xp,A43,A3b,A53];omega) t1 (by simp only[A2i,Xp,A43,A3b,A53];omega) bC (λi a y ha hy=>⟨eH i y hy,t2 i a y ha hy⟩) i a y (by
               have aC:=Bu iA;rw[Ha _ _ _ Aa]at aC;have e1:(vs.toList.take es.flatten.length).take (k*sz+off)=vs.toList.take (k*sz+off):=by rw[List.take_take,A7i Aa]
               have e2:(vs.toList.take es.flatten.length).drop (k*sz+off+v.cells.toList.length)=(vs.toList.drop (k*sz+off+v.cells.toList.length)).take (es.flatten.length-(k*sz+off+v.cells.toList.length)):=by rw[List.drop_take]
               rw[e1,e2];have tR:(vs.toList.take (k*sz+off)++v.cells.toList++vs.toList.drop (k*sz+off+v.cells.toList.length))[i]?=some a:=by simpa using ha
               rw[<-tR];have fM:(vs.toList.take (k*sz+off)++v.cells.toList).length=k*sz+off+v.cells.toList.length:=by simp;omega
               exact An5 _ _ _ i (by rw[fM];omega)) iA
              exact⟨this.1,Av (hr _ _ (.t _ _ this.2))⟩)
            exact⟨_,by simp[Instr.storeAt,Instr.sureAddr,aM],k1,k2,k3⟩
          ·simp at h
         ·simp at h
        ·simp at h
       ·simp at h
      ·simp at h
    ·simp at h
   ·simp at h
  ·simp at h
 ·simp at h
end
end Go.Am
namespace Go.Am
section
variable {P:Program} {te:TE} {w:World} {g:G} {σ:St}
theorem Y9: ∀(l:List Value) (k off:Nat) (cells:Array Value),off+k+l.length<=cells.size->
  (l.zipIdx k).foldl (λcs (p:Value×Nat)=>cs.setIfInBounds (off+p.2) p.1) cells=(cells.toList.take (off+k)++l++cells.toList.drop (off+k+l.length)).toArray
 |[],k,off,cells,_=>Ac
 |v::r,k,off,cells,h=>by
  simp only[A2z]at h;simp only[List.zipIdx_cons,A6m];rw[Y9 r (k+1) off (cells.setIfInBounds (off+k) v) (by simp;omega)];congr 1;have:=list_seg_step cells.toList (off+k) v r (by simp;omega);simp only[Array.toList_setIfInBounds];rw[show off+(k+1)=off+k+1 from Aa]
  simpa using this
theorem JE (place:Nat->Option (Nat×Nat)): ∀{ps:List (Nat×AV)} {vs:List (Nat×Value)} {cs cs':List AV} {cells:Array Value},G4 place ps cs=some cs'->BB w g cells.toList cs->
  (vs.length=ps.length/\ ∀(i:Nat) a b,vs[i]?=some a->ps[i]?=some b->a.1=b.1/\Rel w g a.2 b.2)-> ∃aK,Instr.fill place cells vs=some aK/\BB w g aK.toList cs'
 |[],vs,cs,cs',cells,h,hr,⟨hl,_⟩=>by
  have:vs=[]:=Aq1 hl;subst this;simp[G4]at h;subst h;exact⟨cells,rfl,hr⟩
 |(i,x)::r,[],cs,cs',cells,h,hr,⟨hl,_⟩=>by simp at hl
 |(i,x)::r,(j,v)::vr,cs,cs',cells,h,hr,⟨hl,hp⟩=>by
  obtain⟨kD,uK⟩:=hp 0 _ _ rfl rfl;simp only at kD uK;subst kD;simp only[G4]at h;split at h
  ·rename_i off size iM;split at h
   ·rename_i ys hy;split at h
    ·rename_i aO;split at h
     ·rename_i jE;obtain⟨iT,pZ⟩:=K7 uK hy;have gT:v.cells.size=size:=by rw[<-aO,<-iT.1];simp
      have bR:cells.size=cs.length:=by rw[<-hr.1];simp
      have pT:v.cells.zipIdx.foldl (λcs (p:Value×Nat)=>cs.setIfInBounds (off+p.2) p.1) cells=(cells.toList.take off++v.cells.toList++cells.toList.drop (off+v.cells.toList.length)).toArray:=by
       have:=Y9 v.cells.toList 0 off cells (by simp;omega);rw[<-Array.foldl_toList,Array.toList_zipIdx]
       simpa using this
      have eO:BB w g (cells.toList.take off++v.cells.toList++cells.toList.drop (off+v.cells.toList.length)) (F3 cs off ys):=by
       refine⟨?_,R5 (Rel w g) hr.1 iT.1 (by simp;omega) hr.2 iT.2⟩;rw[Ha _ _ _ Aa];simp;omega
      obtain⟨aK,f1,f2⟩:=JE place (cells:=(cells.toList.take off++v.cells.toList++cells.toList.drop (off+v.cells.toList.length)).toArray) h (by simpa using eO) (vs:=vr) ⟨by simpa using hl,λi a b ha hb=>hp (i+1) a b (by simpa using ha) (by simpa using hb)⟩;refine⟨aK,?_,f2⟩;have pY: ¬((v.cells.size≠size||off+v.cells.size>cells.size)=true):=by simp[gT];omega
      simp only[Instr.fill,iM];rw[Ug pY];rw[<-f1,pT]
     ·simp at h
    ·simp at h
   ·simp at h
  ·simp at h
theorem Kz {a:Act} {env:A2} (he:AQ w g a env): ∀{l:List (Nat×Operand)} {ps:List (Nat×AV)},Dx env l=some ps->
  (l.map λp=>(p.1,a.eval p.2)).length=ps.length/\ ∀(i:Nat) c b,(l.map λp=>(p.1,a.eval p.2))[i]?=some c->ps[i]?=some b->c.1=b.1/\Rel w g c.2 b.2
 |[],ps,h=>by simp[Dx]at h;subst h;simp
 |(k,x)::r,ps,h=>by
  simp only[Dx]at h;split at h
  ·rename_i y hy;split at h
   ·rename_i ys lS;simp at h;subst h;obtain⟨h1,h2⟩:=Kz he lS;refine⟨by simpa using h1,λi c b hc hb=>?_⟩
    cases i with
    |zero=>simp at hc hb;subst hc;subst hb;exact⟨rfl,AF he hy⟩
    |succ i=>simp only[A5h,A5z]at hc hb;exact h2 i c b hc hb
   ·simp at h
  ·simp at h
theorem Sm (aH:Dr P te): ∀(l:List Field) (fs:List (Nat×Nat)),l.map (λf=>(f.offset,f.type))=fs->LB te fs=true->
  ∃r:List (Nat×Nat),(l.mapM λf=>do pure (f.offset,<-sizeOf f.type):Sem (List (Nat×Nat))).run P w=.ok r w/\ ∀i,r[i]?=MJ te fs i
 |[],fs,h,_=>by simp at h;subst h;exact⟨[],Ac,λi=>by simp[MJ]⟩
 |f::l,fs,h,hk=>by
  simp at h;subst h;simp only[LB]at hk;split at hk
  ·rename_i ti hl;obtain⟨r,h1,h2⟩:=Sm aH l _ rfl hk;refine⟨(f.offset,ti.size)::r,?_,λi=>?_⟩
   ·simp only[List.mapM_cons,Ake,C0 (aH _ _ hl) w,Y5,A4t,h1]
   ·cases i with
    |zero=>simp[MJ,hl]
    |succ i=>simp only[A5z,h2 i,MJ]
  ·simp at hk
theorem Zj (aH:Dr P te) {a:Act} {env:A2} (he:AQ w g a env) {t:Nat} {parts:Array (Nat×Operand)} {x:AV} (h:MZ te t env parts.toList=some x):
  ∃v,(Instr.build t (parts.map λp=>(p.1,a.eval p.2))).run P w=.ok v w/\Rel w g v x:=by
 unfold MZ at h;split at h
 ·rename_i ti hl;split at h
  ·rename_i fs hk
   cases pI:LB te fs with
   |false=>rw[pI]at h;simp at h
   |true=>
    rw[pI]at h;simp only[A6x]at h;split at h
    ·rename_i ps iL;split at h
     ·rename_i cs bZ;simp at h;subst h;have hz:=DI (aH _ _ hl) w;obtain⟨gs,hd,hg⟩:=JP (aH _ _ hl) w hk;obtain⟨r,m1,m2⟩:=Sm (w:=w) aH gs.toList fs hg pI;have iM:(λi=>r.toArray[i]?)=MJ te fs:=by funext i;simpa using m2 i
      obtain⟨aK,f1,f2⟩:=JE (MJ te fs) bZ (DN (aH _ _ hl)) (Kz he iL)
      have jG:(gs.mapM λf=>do pure (f.offset,<-sizeOf f.type):Sem (Array (Nat×Nat))).run P w=.ok r.toArray w:=by
       have:gs=gs.toList.toArray:=Ac;rw[this,List.mapM_toArray];simp only[Sem.run_map,m1,Y5]
      refine⟨.agg aK,?_,?_⟩
      ·have f1':Instr.fill (λi=>r.toArray[i]?) (BJ ti).cells (parts.map λp=>(p.1,a.eval p.2)).toList=some aK:=by
        rw[iM,<-f1];simp
       simp only[Instr.build,Ake,hz,Y5,hd,jG,f1',A4t]
      ·have:aK=aK.toList.toArray:=Ac;rw[this];exact .agg _ _ f2.1 f2.2
     ·simp at h
    ·simp at h
  ·rename_i m e hk;split at h
   ·rename_i ei cJ;split at h
    ·rename_i ps iL;split at h
     ·rename_i cs bZ;simp at h;subst h;have hz:=DI (aH _ _ hl) w;have hd:=Ic (aH _ _ hl) w hk;have aN:=C0 (aH _ _ cJ) w;obtain⟨aK,f1,f2⟩:=JE (w:=w) (g:=g) (λi=>some (i*ei.size,ei.size)) bZ (DN (aH _ _ hl)) (Kz he iL);have f1':Instr.fill (λi=>some (i*ei.size,ei.size)) (BJ ti).cells (parts.map λp=>(p.1,a.eval p.2)).toList=some aK:=by rw[<-f1];simp
      refine⟨.agg aK,?_,?_⟩
      ·simp only[Instr.build,Ake,hz,Y5,hd,aN,f1',A4t]
      ·have:aK=aK.toList.toArray:=Ac;rw[this];exact .agg _ _ f2.1 f2.2
     ·simp at h
    ·simp at h
   ·simp at h
  ·simp at h
 ·simp at h
theorem Iy {α:Type} (z:List α): ∀n,(N9 z n).length=n*z.length
 |0=>by simp[N9]
 |n+1=>by simp[N9,Iy z n,A58];omega
theorem RK {α:Type} (z:List α): ∀(n i:Nat),i<n*z.length->(N9 z n)[i]?=z[i % z.length]?
 |0,i,h=>by simp at h
 |n+1,i,h=>by
  rw[A58]at h;simp only[N9];by_cases c:i<z.length
  ·rw[Abh c,Nat.mod_eq_of_lt c]
  ·rw[Aez Aa,RK z n (i-z.length) Aa];congr 1;rw[Nat.mod_eq_sub_mod (by omega:i>=z.length)]
theorem K4 {α:Type} (sz:Nat): ∀(n:Nat) (l:List α),l.length=n*sz->(CH sz n l).flatten=l/\(∀e∈CH sz n l,e.length=sz)/\(CH sz n l).length=n
 |0,l,h=>by
  have:l=[]:=Aq1 (by simpa using h);subst this;simp[CH]
 |n+1,l,h=>by
  rw[A58]at h;obtain⟨h1,h2,h3⟩:=K4 sz n (l.drop sz) (by simp;omega);refine⟨by simp[CH,h1],?_,by simp[CH,h3]⟩;intro e he;simp only[CH,Als]at he;rcases he with rfl|he
  ·simp;omega
  ·exact h2 e he
theorem KA: ∀{l:List AV},Dq l=true↔ ∀x∈l,T0 x=true
 |[]=>by simp[Dq]
 |x::r=>by simp[Dq,KA (l:=r)]
theorem YJ (place:Nat->Option (Nat×Nat)): ∀{ps:List (Nat×AV)} {cs cs':List AV},G4 place ps cs=some cs'->Dq cs=true->Dq cs'=true
 |[],cs,cs',h,ho=>by simp[G4]at h;subst h;exact ho
 |(i,x)::r,cs,cs',h,ho=>by
  simp only[G4]at h;split at h
  ·split at h
   ·rename_i ys hy;split at h
    ·split at h
     ·refine YJ place h ?_;rw[KA]at ho⊢
      have lS:Dq ys=true:=by
       unfold II at hy;split at hy
       ·rename_i ds;cases hd:Dq ds<;>rw[hd]at hy<;>simp at hy;subst hy;exact hd
       ·rename_i ts;cases hd:Dq (Af ts)<;>rw[hd]at hy<;>simp at hy;subst hy;exact hd
       ·cases hd:T0 x<;>rw[hd]at hy<;>simp at hy;subst hy;simp[Dq,hd]
      rw[KA]at lS;intro y iA;simp only[F3,A25]at iA;rcases iA with h'|h'|h'
      ·exact ho y (A3c h')
      ·exact lS y h'
      ·exact ho y (A6k h')
     ·simp at h
    ·simp at h
   ·simp at h
  ·simp at h
theorem XY {α:Type} {z:List α} {x:α}: ∀{n:Nat},x∈N9 z n->x∈z
 |0,h=>by simp[N9]at h
 |n+1,h=>by
  simp only[N9,A25]at h;rcases h with h|h
  ·exact h
  ·exact XY h
theorem Ahk {x:T} (h:GV x=true):CV x=true:=by cases x<;>simp[GV]at h<;>rfl
theorem U8 {x:AV}: ∀{l:List T},x∈Af l-> ∃y∈l,x=.t y
 |[],h=>by simp[Af]at h
 |y::r,h=>by
  simp only[Af,Als]at h;rcases h with h|h
  ·exact⟨y,Ac,h⟩
  ·obtain⟨z,hz,e⟩:=U8 h;exact⟨z,by simp[hz],e⟩
def Aom (w:World) (g:G) (w':World) (v:Value) (n:Nat) (x:AV):Prop:=
 ∀m sz es,x=.t (.slice m sz es)->0<n->v=.slice (some ⟨w.heap.size,0,none⟩) n n/\es.length=n/\(∀e∈es,e.length=sz)/\
  ∃aK e,More w w' (.cells aK e (0,0))/\aK.size=n*sz/\ ∀(i:Nat) v y,aK[i]?=some v->es.flatten[i]?=some y->CV y=true/\RelT w g.M v y
theorem JI (aH:Dr P te) (hi:Inv w g σ) {a:Act} {env:A2} (he:AQ w g a env) {t n:Nat} {parts:Array (Nat×Operand)} {x:AV} (h:Ep te t n env parts.toList=some x):
  ∃v w',(Instr.buildSlice t n (parts.map λp=>(p.1,a.eval p.2))).run P w=.ok v w'/\Ext w g w' g/\Rel w' g v x/\Inv w' g σ/\(∀v x,Rel w g v x->Rel w' g v x)/\Aom w g w' v n x:=by
 unfold Ep at h;split at h
 ·rename_i i1 i2 i3 e hl;have hu:=G5 (aH _ _ hl) w rfl;split at h
  ·rename_i ei bK;have aN:=C0 (aH _ _ bK) w;have hz:=DI (aH _ _ bK) w;have fR:=DN (w:=w) (g:=g) (aH _ _ bK);have fL:=(aH _ _ bK).len;split at h
   ·rename_i m4;split at h
    ·rename_i ps iL;split at h
     ·rename_i cs bZ;split at h
      ·rename_i ts fS
       obtain⟨zc,i4⟩: ∃zc:Array Value,zc=(if n*ei.size=0 then #[]else(BJ ei).cells):=⟨_,rfl⟩
       have uJ:(if n*ei.size=0 then pure #[]else do pure (<-zeroValue e).cells:Sem (Array Value)).run P w=.ok zc w:=by
        subst i4;split<;>simp[hz]
       have fE:(BJ ei).cells.size=ei.size:=by rw[<-fL,<-Bz,<-fR.1];simp
       have kC:BB w g ((Array.range (n*ei.size)).map (zc[· % zc.size]!)).toList (Af (N9 ei.zero n)):=by
        refine⟨by simp[Bz,Iy,fL],λi v x hv hx=>?_⟩;have aC:i<n*ei.size:=by have:=Bu hx;rw[Bz,Iy,fL]at this;exact this
        have aE:n*ei.size≠0:=Aa
        have dH:0<ei.size:=by
         rcases A8t ei.size with h'|h'
         ·rw[h']at aE;simp at aE
         ·exact h'
        rw[Ug aE]at i4;subst i4;rw[CK,RK _ _ _ (by rw[fL];exact aC),fL]at hx;have hm:i % ei.size<ei.size:=Nat.mod_lt _ dH;simp only[Array.toList_map,Array.toList_range,A42,A7e aC,A4g,A26,fE]at hv
        have fP:(BJ ei).cells.toList[i % ei.size]?=some v:=by
         rw[<-hv,Agx,getElem!_pos _ _ (by rw[fE];exact hm),A23 (by rw[fE];exact hm)]
        exact fR.2 _ v x fP (by rw[CK];exact hx)
       obtain⟨aK,f1,f2⟩:=JE (λi=>some (i*ei.size,ei.size)) bZ kC (Kz he iL);have hm:=More.alloc w (.cells aK e);obtain⟨k1,k2,k3⟩:=Fs hi hm
       have bR:cs.length=n*ei.size:=by
        have: ∀(ps:List (Nat×AV)) (cs cs':List AV),G4 (λi=>some (i*ei.size,ei.size)) ps cs=some cs'->cs'.length=cs.length:=by
         intro ps
         induction ps with
         |nil=>intro cs cs' h;simp[G4]at h;rw[h]
         |cons p r ih=>
          intro cs cs' h;obtain⟨i,x⟩:=p;simp only[G4]at h;split at h
          ·split at h
           ·split at h
            ·rw[ih _ _ h,Ha _ _ _ Aa]
            ·simp at h
           ·simp at h
          ·simp at h
        rw[this _ _ _ bZ,Bz,Iy,fL]
       obtain⟨t1,t2⟩:=f2.allT fS;have dY:ts.length=n*ei.size:=by rw[<-bR,Ox fS,Bz]
       obtain⟨c1,c2,c3⟩:=K4 ei.size n ts dY
       have eH: ∀(i:Nat) z,ts[i]?=some z->CV z=true:=by
        intro i z hz
        have h0:Dq (Af (N9 ei.zero n))=true:=by
         rw[KA];intro y hy;obtain⟨q,hq,rfl⟩:=U8 hy;have:=(aH _ _ bK).const;rw[A21]at this;exact Ahk (this q (XY hq))
        have h1:=YJ _ bZ h0;exact IL h1 i (.t z) (by rw[Ox fS,CK,hz];rfl)
       refine⟨.slice (some ⟨w.heap.size,0,none⟩) n n,_,?_,k1,?_,k2,k3,?_⟩
       ·have cS: ¬(n*ei.size>2^24):=Aa
        have f1':Instr.fill (λi=>some (i*ei.size,ei.size)) ((Array.range (n*ei.size)).map (zc[· % zc.size]!)) (parts.map λp=>(p.1,a.eval p.2)).toList=some aK:=by
         rw[<-f1];simp
        simp only[Instr.buildSlice,Ake,hu,Y5,aN];rw[Ug cS];by_cases dB:n*ei.size=0
        ·rw[WU dB]at i4⊢;subst i4;simp only[A4t,Y5,Ake,f1',newRow,newObj,Sem.run];rfl
        ·rw[Ug dB]at i4⊢;subst i4;simp only[A4t,Y5,hz,Ake,f1',newRow,newObj,Sem.run];rfl
       ·cases n with
        |zero=>
         simp at h;subst h;exact .t _ _ (EA rfl (WW _) (λ_=>rfl) Ac Ac Ac)
        |succ n=>
        simp at h;subst h;refine .t _ _ (EA c3 (WW _) (λ_=>rfl) Ac c2 ?_);intro i x hx;rw[c1]at hx;have aC:=Bu hx
        have hv: ∃v,aK.toList[i]?=some v:=⟨aK.toList[i]'(by rw[t1];exact aC),Kv _⟩
        obtain⟨v,hv⟩:=hv;refine⟨Al0 hi _,eH i x hx,v,?_,Av (k3 _ _ (.t _ _ (t2 i v x hv hx)))⟩;rw[Atj,C7 hm.new,<-Agx];exact hv
       ·intro m' cO es' hx dH
        cases n with
        |zero=>omega
        |succ n=>
        simp at h;subst h;cases hx;refine⟨rfl,c3,c2,aK,e,hm,by have:=t1;rw[dY]at this;simpa using this,λi v y hv hy=>?_⟩;rw[c1]at hy;exact⟨eH i y hy,t2 i v y (by rw[Agx];exact hv) hy⟩
      ·simp at h
     ·simp at h
    ·simp at h
   ·simp at h
  ·simp at h
 ·simp at h
end
