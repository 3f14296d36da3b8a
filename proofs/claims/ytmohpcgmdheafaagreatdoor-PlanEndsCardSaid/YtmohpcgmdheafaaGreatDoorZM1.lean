/- The general texts of the abstract machine, joined: Am1, Am2, Am3, Am4, Am5, Am6, Am7, Am8, Am9, Am10, Am11, Am12. -/
import Derived.KernelRfl
import Derived.Calls
import Derived.Orders
import Derived.Scope
import Derived.Laws.Cells
import Derived.Laws.World
import Derived.Laws.Sem
import Derived.Laws.Strings
import Derived.RangeFuncLeaves
import Derived.TacticsIn
import Derived.LoopNIn
import Derived.OrdersIn
import Derived.RangeFuncCalls
import Derived.Laws.StructEq
import Derived.Laws.CopyRow
import Derived.Laws.Append
import Derived.Laws.AppendOwn
set_option linter.unusedVariables false
set_option linter.unusedSimpArgs false
namespace Go.Am
theorem Y.{u} {α:Sort u} {a:α}:a=a:=rfl
theorem Aa {p:Prop} (h:p:=by omega):p:=h
theorem Ab {p:Prop} (h:p:=by kernel_rfl):p:=h
theorem Ac {p:Prop} (h:p:=by simp):p:=h
theorem Ad {p:Prop} (h:p:=by assumption):p:=h
theorem Ae {p:Prop} (h:p:=by decide):p:=h
def look {α:Type}:List (Nat×α)->Nat->Option α
 |[],_=>none
 |(k,x)::r,n=>bif Nat.beq k n then some x else look r n
theorem Ao {α:Type} (k:Nat) (x:α) (r:List (Nat×α)) (n:Nat):look ((k,x)::r) n=if k=n then some x else look r n:=by
 by_cases h:k=n
 ·subst h;simp[look]
 ·have:Nat.beq k n=false:=by
   cases hb:Nat.beq k n with
   |false=>rfl
   |true=>exact absurd (Nat.eq_of_beq_eq_true hb) h
  simp[look,this,h]
inductive SM where
 |any|full|nil
 |phys (b N:Nat)
 deriving DecidableEq
inductive T where
 |undef
 |bool (b:Bool)
 |int (k:IntKind) (n:Int)
 |str (s:List UInt8)
 |slice (m:SM) (sz:Nat) (es:List (List T))
 |ptr (cs:List T)
 |nilPtr
 |nilIface
 |nilFunc
 |nilMap
 |iface (t:Nat) (x:T)
 |func (fn:Fn) (first cap:List T)
 |agg (cs:List T)
 |tuple (vs:List T)
inductive AV where
 |t (x:T)
 |top
 |ref (b off:Nat)
 |eref (b sz k off:Nat)
 |mref (b:Nat)
 |row (b sz lo len:Nat)
 |iface (t:Nat) (x:AV)
 |func (fn:Fn) (first cap:List AV)
 |agg (cs:List AV)
 |tuple (vs:List AV)
inductive Blk where
 |cells (cs:List AV)
 |grow (sz:Nat) (es:List (List T))
 |rights (L:List (Nat×Nat×Nat))
 |loop (l:Nat) (st:LoopState) (pe:Option Code) (ps:Array Tmp) (asg bd:Code) (n:Nat) (env:List (Nat×AV))
 |mp (ks:List T) (xs:List AV)
abbrev Env:=List (Nat×AV)
abbrev St:=List (Nat×Blk)
structure G where
 β:Nat->Option (Option Nat)
 own:Nat->Prop
 oth:Nat->Nat->Prop
 bx:Nat->Prop
 sp:Nat->Option Nat
 lo:Nat:=0
def G.M (g:G) (b o:Nat):Prop:=(g.own b/\ ∀e,g.sp b=some e->e<=o)\/g.oth b o
def CK:T->Bool
 |.undef=>false
 |.agg _=>false
 |.tuple _=>false
 |_=>true
inductive RelT (w:World) (M:Nat->Nat->Prop):Value->T->Prop where
 |undef:RelT w M Go.undef .undef
 |bool (b:Bool):RelT w M (.bool b) (.bool b)
 |int (k:IntKind) (n:Int):RelT w M (.int k n) (.int k n)
 |str (s:List UInt8):RelT w M (.string ⟨s.toArray⟩) (.str s)
 |sliceNil (m:SM) (sz:Nat):RelT w M (.slice none 0 0) (.slice m sz [])
 |sliceZ (a:Addr) (m:SM) (sz:Nat) (hm:m≠ .nil):RelT w M (.slice (some a) 0 0) (.slice m sz [])
 |slice (b off len cap:Nat) (m:SM) (sz:Nat) (es:List (List T)) (vs:Nat->Value) (hl:es.length=len) (hc:len<=cap) (hf:m=.full->cap=len) (hm:m≠ .nil) (hp: ∀p N,m=.phys p N->b=p/\off=0/\cap*sz<=N)
   (hsz: ∀e∈es,e.length=sz) (hone: ∀(i:Nat) x,es.flatten[i]?=some x->CK x=true) (hcell: ∀i x,es.flatten[i]?=some x-> ¬M b (off+i)/\w.cell? ⟨b,off+i,none⟩=some (vs i))
   (hrel: ∀i x,es.flatten[i]?=some x->RelT w M (vs i) x):RelT w M (.slice (some ⟨b,off,none⟩) len cap) (.slice m sz es)
 |ptr (b off:Nat) (cs:List T) (vs:Nat->Value) (hone: ∀(i:Nat) x,cs[i]?=some x->CK x=true) (hcell: ∀i x,cs[i]?=some x-> ¬M b (off+i)/\w.cell? ⟨b,off+i,none⟩=some (vs i))
   (hrel: ∀i x,cs[i]?=some x->RelT w M (vs i) x):RelT w M (.pointer (some ⟨b,off,none⟩)) (.ptr cs)
 |nilPtr:RelT w M (.pointer none) .nilPtr
 |nilIface:RelT w M .nilIface .nilIface
 |nilFunc:RelT w M .nilFunc .nilFunc
 |nilMap:RelT w M (.map none) .nilMap
 |iface (t:Nat) (v:Value) (x:T) (h:RelT w M v x):RelT w M (.iface t v) (.iface t x)
 |func (fn:Fn) (v1 v2:List Value) (x1 x2:List T) (h1:v1.length=x1.length) (h2:v2.length=x2.length)
   (r1: ∀(i:Nat) v x,v1[i]?=some v->x1[i]?=some x->RelT w M v x) (r2: ∀(i:Nat) v x,v2[i]?=some v->x2[i]?=some x->RelT w M v x):
   RelT w M (.func fn v1.toArray v2.toArray) (.func fn x1 x2)
 |agg (vs:List Value) (xs:List T) (h:vs.length=xs.length) (r: ∀(i:Nat) v x,vs[i]?=some v->xs[i]?=some x->RelT w M v x):
   RelT w M (.agg vs.toArray) (.agg xs)
 |tuple (vs:List Value) (xs:List T) (h:vs.length=xs.length) (r: ∀(i:Nat) v x,vs[i]?=some v->xs[i]?=some x->RelT w M v x):
   RelT w M (.tuple vs.toArray) (.tuple xs)
def HC (w:World) (M:Nat->Nat->Prop) (w':World) (M':Nat->Nat->Prop):Prop:=
 ∀b o v,¬M b o->w.cell? ⟨b,o,none⟩=some v-> ¬M' b o/\w'.cell? ⟨b,o,none⟩=some v
theorem RelT.mono {w w':World} {M M':Nat->Nat->Prop} (hk:HC w M w' M') {v:Value} {x:T} (h:RelT w M v x):RelT w' M' v x:=by
 induction h with
 |undef=>exact .undef
 |bool b=>exact .bool b
 |int k n=>exact .int k n
 |str s=>exact .str s
 |sliceNil m sz=>exact .sliceNil m sz
 |sliceZ a m sz hm=>exact .sliceZ a m sz hm
 |slice b off len cap m sz es vs hl hc hf hm hp hsz hone hcell _ ih=>
  exact .slice b off len cap m sz es vs hl hc hf hm hp hsz hone (fun i x hx=>hk _ _ _ (hcell i x hx).1 (hcell i x hx).2) ih
 |ptr b off cs vs hone hcell _ ih=>exact .ptr b off cs vs hone (fun i x hx=>hk _ _ _ (hcell i x hx).1 (hcell i x hx).2) ih
 |nilPtr=>exact .nilPtr
 |nilIface=>exact .nilIface
 |nilFunc=>exact .nilFunc
 |nilMap=>exact .nilMap
 |iface t v x _ ih=>exact .iface t v x ih
 |func fn v1 v2 x1 x2 h1 h2 _ _ i1 i2=>exact .func fn v1 v2 x1 x2 h1 h2 i1 i2
 |agg vs xs h _ ih=>exact .agg vs xs h ih
 |tuple vs xs h _ ih=>exact .tuple vs xs h ih
inductive Rel (w:World) (g:G):Value->AV->Prop where
 |t (v:Value) (x:T) (h:RelT w g.M v x):Rel w g v (.t x)
 |top (v:Value):Rel w g v .top
 |ref (b off blk:Nat) (h:g.β b=some (some blk)):Rel w g (.pointer (some ⟨blk,off,none⟩)) (.ref b off)
 |eref (b sz k off blk:Nat) (h:g.β b=some (some blk)):Rel w g (.pointer (some ⟨blk,k*sz+off,none⟩)) (.eref b sz k off)
 |mref (b blk:Nat) (h:g.β b=some (some blk)):Rel w g (.map (some blk)) (.mref b)
 |rowNil (b sz:Nat) (a:Option Addr) (ha: ∀x:Addr,a=some x->True) (h:g.β b=some none):Rel w g (.slice a 0 0) (.row b sz 0 0)
 |row (b sz lo len blk o cap e n:Nat) (h:g.β b=some (some blk)) (hs:w.shape? blk=some (e,n)) (ho:o=lo*sz\/cap=0) (hl:len<=cap) (hn:(lo+cap)*sz<=n):
   Rel w g (.slice (some ⟨blk,o,none⟩) len cap) (.row b sz lo len)
 |iface (t:Nat) (v:Value) (x:AV) (h:Rel w g v x):Rel w g (.iface t v) (.iface t x)
 |func (fn:Fn) (v1 v2:List Value) (x1 x2:List AV) (h1:v1.length=x1.length) (h2:v2.length=x2.length)
   (r1: ∀(i:Nat) v x,v1[i]?=some v->x1[i]?=some x->Rel w g v x) (r2: ∀(i:Nat) v x,v2[i]?=some v->x2[i]?=some x->Rel w g v x):
   Rel w g (.func fn v1.toArray v2.toArray) (.func fn x1 x2)
 |agg (vs:List Value) (xs:List AV) (h:vs.length=xs.length) (r: ∀(i:Nat) v x,vs[i]?=some v->xs[i]?=some x->Rel w g v x):
   Rel w g (.agg vs.toArray) (.agg xs)
 |tuple (vs:List Value) (xs:List AV) (h:vs.length=xs.length) (r: ∀(i:Nat) v x,vs[i]?=some v->xs[i]?=some x->Rel w g v x):
   Rel w g (.tuple vs.toArray) (.tuple xs)
theorem Rel.mono {w w':World} {g g':G} (hk:HC w g.M w' g'.M) (hβ: ∀b p,g.β b=some p->g'.β b=some p)
  (hs: ∀b p,w.shape? b=some p->w'.shape? b=some p) {v:Value} {x:AV} (h:Rel w g v x):Rel w' g' v x:=by
 induction h with
 |t v x h=>exact .t v x (h.mono hk)
 |top v=>exact .top v
 |ref b off blk h=>exact .ref b off blk (hβ _ _ h)
 |eref b sz k off blk h=>exact .eref b sz k off blk (hβ _ _ h)
 |mref b blk h=>exact .mref b blk (hβ _ _ h)
 |rowNil b sz a ha h=>exact .rowNil b sz a ha (hβ _ _ h)
 |row b sz lo len blk o cap e n h hs' ho hl hn=>exact .row b sz lo len blk o cap e n (hβ _ _ h) (hs _ _ hs') ho hl hn
 |iface t v x _ ih=>exact .iface t v x ih
 |func fn v1 v2 x1 x2 h1 h2 _ _ i1 i2=>exact .func fn v1 v2 x1 x2 h1 h2 i1 i2
 |agg vs xs h _ ih=>exact .agg vs xs h ih
 |tuple vs xs h _ ih=>exact .tuple vs xs h ih
mutual
def AV.has (b:Nat):AV->Bool
 |.t _=>false
 |.top=>false
 |.ref c _=>Nat.beq c b
 |.eref c _ _ _=>Nat.beq c b
 |.mref c=>Nat.beq c b
 |.row c _ _ _=>Nat.beq c b
 |.iface _ x=>x.has b
 |.func _ f c=>Ox b f||Ox b c
 |.agg cs=>Ox b cs
 |.tuple cs=>Ox b cs
def Ox (b:Nat):List AV->Bool
 |[]=>false
 |x::r=>x.has b||Ox b r
end
theorem Kw {b:Nat}: ∀{l:List AV},Ox b l=false-> ∀(i:Nat) x,l[i]?=some x->x.has b=false
 |[],_,i,x,h=>by simp at h
 |y::r,hf,i,x,h=>by
  simp only[Ox,Bool.or_eq_false_iff]at hf
  cases i with
  |zero=>simp at h;subst h;exact hf.1
  |succ i=>simp at h;exact Kw hf.2 i x h
theorem E2 {a b:Nat} (h:Nat.beq a b=false):a≠b:=by
 intro e;subst e;simp at h
theorem Rel.mono_but {w w':World} {g g':G} (c:Nat) (hk:HC w g.M w' g'.M) (hβ: ∀b p,b≠c->g.β b=some p->g'.β b=some p)
  (hs: ∀b p,w.shape? b=some p->w'.shape? b=some p) {v:Value} {x:AV} (h:Rel w g v x):x.has c=false->Rel w' g' v x:=by
 induction h with
 |t v x h=>exact fun _=>.t v x (h.mono hk)
 |top v=>exact fun _=>.top v
 |ref b off blk h=>intro hh;simp only[AV.has]at hh;exact .ref b off blk (hβ _ _ (E2 hh) h)
 |eref b sz k off blk h=>intro hh;simp only[AV.has]at hh;exact .eref b sz k off blk (hβ _ _ (E2 hh) h)
 |mref b blk h=>intro hh;simp only[AV.has]at hh;exact .mref b blk (hβ _ _ (E2 hh) h)
 |rowNil b sz a ha h=>intro hh;simp only[AV.has]at hh;exact .rowNil b sz a ha (hβ _ _ (E2 hh) h)
 |row b sz lo len blk o cap e n h hs' ho hl hn=>
  intro hh;simp only[AV.has]at hh;exact .row b sz lo len blk o cap e n (hβ _ _ (E2 hh) h) (hs _ _ hs') ho hl hn
 |iface t v x _ ih=>intro hh;simp only[AV.has]at hh;exact .iface t v x (ih hh)
 |func fn v1 v2 x1 x2 h1 h2 _ _ i1 i2=>
  intro hh;simp only[AV.has,Bool.or_eq_false_iff]at hh
  exact .func fn v1 v2 x1 x2 h1 h2 (fun i v x a b=>i1 i v x a b (Kw hh.1 i x b)) (fun i v x a b=>i2 i v x a b (Kw hh.2 i x b))
 |agg vs xs h _ ih=>intro hh;simp only[AV.has]at hh;exact .agg vs xs h (fun i v x a b=>ih i v x a b (Kw hh i x b))
 |tuple vs xs h _ ih=>intro hh;simp only[AV.has]at hh;exact .tuple vs xs h (fun i v x a b=>ih i v x a b (Kw hh i x b))
theorem N0 {α:Type} (sz:Nat): ∀(es:List (List α)),(∀e∈es,e.length=sz)-> ∀(i:Nat) e,es[i]?=some e-> ∀(j:Nat) x,e[j]?=some x->
  es.flatten[i*sz+j]?=some x
 |[],_,i,e,h,_,_,_=>by simp at h
 |a::es,hs,i,e,h,j,x,hx=>by
  cases i with
  |zero=>
   simp at h;subst h
   have hj:j<a.length:=by
    rcases Nat.lt_or_ge j a.length with h|h
    ·exact h
    ·simp[List.getElem?_eq_none h]at hx
   simp[List.getElem?_append_left hj,hx]
  |succ i=>
   simp at h
   have ha:=hs a Ac
   have ih:=N0 sz es (fun e he=>hs e (by simp[he])) i e h j x hx
   rw[List.flatten_cons,List.getElem?_append_right (by rw[ha,Nat.succ_mul];omega)]
   rw[show(i+1)*sz+j-a.length=i*sz+j by rw[ha,Nat.succ_mul];omega]
   exact ih
theorem Dg {α:Type} (sz:Nat): ∀(es:List (List α)),(∀e∈es,e.length=sz)->es.flatten.length=es.length*sz
 |[],_=>by simp
 |a::es,hs=>by
  have ha:=hs a Ac
  have ih:=Dg sz es (fun e he=>hs e (by simp[he]))
  rw[List.flatten_cons,List.length_append,ih,ha,List.length_cons,Nat.succ_mul];omega
def Fc (w:World) (g:G) (b:Nat):Blk->Prop
 |.cells cs=> ∃blk vs e,g.β b=some (some blk)/\g.own blk/\w.heap[blk]?=some (.cells vs e (0,0))/\vs.size=cs.length/\
   ∀(i:Nat) v x,vs[i]?=some v->cs[i]?=some x->Rel w g v x
 |.grow sz es=>(∀e∈es,e.length=sz)/\((g.β b=some none/\es=[])\/ ∃blk vs e,g.β b=some (some blk)/\g.own blk/\w.heap[blk]?=some (.cells vs e (0,0))/\
   es.flatten.length<=vs.size/\ ∀(i:Nat) v x,vs[i]?=some v->es.flatten[i]?=some x->CK x=true/\RelT w g.M v x)
 |.rights _=>g.β b=some none
 |.loop l st pe ps asg bd n env=> ∃r:Loop,g.β b=some (some l)/\g.own l/\w.heap[l]?=some (.loop r)/\(r.state=st/\r.pending=pe/\r.params=ps/\r.assign=asg/\r.body=bd)/\n<=r.tmps.size/\
   ∀t x,look env t=some x->Rel w g (r.tmps.getD t undef) x
 |.mp ks xs=> ∃blk es clk,g.β b=some (some blk)/\g.own blk/\w.heap[blk]?=some (.map es clk)/\es.size=ks.length/\es.size=xs.length/\(∀(i:Nat) e x,es[i]?=some e->ks[i]?=some x->RelT w g.M e.key x)/\ ∀(i:Nat) e x,es[i]?=some e->xs[i]?=some x->Rel w g e.val x
def gIm:List (Nat×Nat×Value):=[(0,0,.iface 255 (.agg #[.pointer (some ⟨4,69,none⟩)]))]
structure SpOk (w:World) (g:G) (σ:St):Prop where
 lt: ∀blk e,g.sp blk=some e->blk<w.heap.size
 bs: ∀c blk,g.β c=some (some blk)->g.sp blk=none
 one: ∀b b' L L' blk e e',look σ b=some (.rights L)->look σ b'=some (.rights L')->(blk,e)∈L->(blk,e')∈L'->b=b'
 ok: ∀b L,look σ b=some (.rights L)->(L.map Prod.fst).Nodup/\ ∀p∈L,g.own p.1/\g.sp p.1=some p.2.2/\ ∃vs ty,w.heap[p.1]?=some (.cells vs ty (0,0))/\vs.size=p.2.1/\p.2.2<=p.2.1
structure Inv (w:World) (g:G) (σ:St):Prop where
 ok: ∀b B,look σ b=some B->Fc w g b B
 dom: ∀b,(look σ b).isSome=(g.β b).isSome
 inj: ∀b b' blk,g.β b=some (some blk)->g.β b'=some (some blk)->b=b'
 lt: ∀blk,(g.own blk\/ ∃o,g.oth blk o)->blk<w.heap.size
 bx: ∀b,g.bx b->b % 2=1/\ ∃cs,look σ b=some (.cells cs)
 dis: ∀blk o,g.own blk-> ¬g.oth blk o
 im: ∀p∈gIm,¬g.M p.1 p.2.1/\w.cell? ⟨p.1,p.2.1,none⟩=some p.2.2
 lo:g.lo<=w.heap.size
 sx:SpOk w g σ
theorem Inv.im_of {w w':World} {g g':G} {σ:St} (h:Inv w g σ) (hk:HC w g.M w' g'.M): ∀p∈gIm,¬g'.M p.1 p.2.1/\w'.cell? ⟨p.1,p.2.1,none⟩=some p.2.2:=fun p hp=>hk _ _ _ (h.im p hp).1 (h.im p hp).2
def AK (w:World) (g:G) (a:Act) (env:Env):Prop:= ∀t x,look env t=some x->Rel w g (a.tmps.getD t undef) x
def ZS (w w':World):Prop:=w'.os=w.os/\w'.output=w.output
structure Ext (w:World) (g:G) (w':World) (g':G):Prop where
 size:w.heap.size<=w'.heap.size
 keep: ∀blk,blk<w.heap.size-> ¬g.own blk->w'.heap[blk]?=w.heap[blk]?
 own: ∀blk,blk<w.heap.size->g'.own blk->g.own blk
 oth: ∀blk o,g'.oth blk o↔g.oth blk o
 shape: ∀b p,w.shape? b=some p->w'.shape? b=some p
 bx: ∀b,g.bx b->g'.bx b/\g'.β b=g.β b
 lo:g'.lo=g.lo/\ZS w w'
 sp: ∀blk e,blk<w.heap.size->g.own blk->g.sp blk=some e->(∀o,o<e->w'.cell? ⟨blk,o,none⟩=w.cell? ⟨blk,o,none⟩)/\(g'.own blk-> ∃e',g'.sp blk=some e'/\e<=e')
theorem Anc {w:World} {b o:Nat} {s:Option Nat} {v:Value} (h:w.cell? ⟨b,o,s⟩=some v):b<w.heap.size:=World.block_lt_of_cell? _ _ h
theorem BX {w w':World} {b:Nat} (h:w'.heap[b]?=w.heap[b]?) (o:Nat) (s:Option Nat):w'.cell? ⟨b,o,s⟩=w.cell? ⟨b,o,s⟩:=by
 simp[World.cell?,h]
theorem Gt {w w':World} {g g':G} (hs: ∀blk e,blk<w.heap.size->g.own blk->g.sp blk=some e->g'.sp blk=some e) (hh: ∀blk e,blk<w.heap.size->g.own blk->g.sp blk=some e->w'.heap[blk]?=w.heap[blk]?):
  ∀blk e,blk<w.heap.size->g.own blk->g.sp blk=some e->(∀o,o<e->w'.cell? ⟨blk,o,none⟩=w.cell? ⟨blk,o,none⟩)/\(g'.own blk-> ∃e',g'.sp blk=some e'/\e<=e'):=
 fun blk e hb ho h=>⟨fun o _=>BX (hh blk e hb ho h) o none,fun _=>⟨e,hs blk e hb ho h,Nat.le_refl _⟩⟩
theorem SpOk.mono {w w':World} {g g':G} {σ σ':St} (h:SpOk w g σ) (hz:w.heap.size<=w'.heap.size) (hs:g'.sp=g.sp) (ho: ∀blk e,g.sp blk=some e->g.own blk->g'.own blk)
  (hh: ∀blk e,g.sp blk=some e->g.own blk->(∀c,g.β c≠some (some blk))->w'.heap[blk]?=w.heap[blk]?) (hβ: ∀c blk,g'.β c=some (some blk)->(∃c',g.β c'=some (some blk))\/g.sp blk=none)
  (hσ: ∀b L,look σ' b=some (.rights L)->look σ b=some (.rights L)):SpOk w' g' σ' where
 lt blk e he:=Nat.lt_of_lt_of_le (h.lt blk e (by rw[<-hs];exact he)) hz
 bs c blk hc:=by
  rw[hs]
  rcases hβ c blk hc with⟨c',h'⟩|h'
  ·exact h.bs c' blk h'
  ·exact h'
 one b b' L L' blk e e' h1 h2:=h.one b b' L L' blk e e' (hσ _ _ h1) (hσ _ _ h2)
 ok b L hL:=by
  obtain⟨h1,h2⟩:=h.ok b L (hσ _ _ hL)
  refine⟨h1,fun p hp=>?_⟩
  obtain⟨k1,k2,vs,ty,k3,k4⟩:=h2 p hp
  refine⟨ho _ _ k2 k1,by rw[hs];exact k2,vs,ty,?_,k4⟩
  rw[hh _ _ k2 k1 (fun c hc=>by have:=h.bs c _ hc;rw[k2]at this;cases this)];exact k3
theorem SpOk.empty {w:World} {g:G} (hl: ∀blk e,g.sp blk=some e->blk<w.heap.size) (hb: ∀c,g.β c=none):SpOk w g []:=
 ⟨hl,fun c blk h=>(by rw[hb]at h;cases h),fun b b' L L' blk e e' h=>(by simp[look]at h),fun b L h=>(by simp[look]at h)⟩
theorem A1t (w:World) (g:G):Ext w g w g:=⟨Nat.le_refl _,fun _ _ _=>rfl,fun _ _ h=>h,fun _ _=>Iff.rfl,fun _ _ h=>h,fun _ h=>⟨h,rfl⟩,⟨rfl,rfl,rfl⟩,Gt (fun _ _ _ _ h=>h) (fun _ _ _ _ _=>rfl)⟩
theorem Ext.trans {w w1 w2:World} {g g1 g2:G} (h:Ext w g w1 g1) (h':Ext w1 g1 w2 g2):Ext w g w2 g2 where
 size:=Nat.le_trans h.size h'.size
 keep blk hb ho:=by
  rw[h'.keep blk (Nat.lt_of_lt_of_le hb h.size) (fun hc=>ho (h.own blk hb hc)),h.keep blk hb ho]
 own blk hb ho:=h.own blk hb (h'.own blk (Nat.lt_of_lt_of_le hb h.size) ho)
 oth blk o:=(h'.oth blk o).trans (h.oth blk o)
 shape b p hp:=h'.shape b p (h.shape b p hp)
 bx b hb:=⟨(h'.bx b (h.bx b hb).1).1,by rw[(h'.bx b (h.bx b hb).1).2,(h.bx b hb).2]⟩
 lo:=⟨h'.lo.1.trans h.lo.1,h'.lo.2.1.trans h.lo.2.1,h'.lo.2.2.trans h.lo.2.2⟩
 sp blk e hb ho he:=by
  obtain⟨a1,a2⟩:=h.sp blk e hb ho he
  by_cases h1:g1.own blk
  ·obtain⟨e1,b1,b2⟩:=a2 h1
   obtain⟨c1,c2⟩:=h'.sp blk e1 (Nat.lt_of_lt_of_le hb h.size) h1 b1
   refine⟨fun o hlt=>by rw[c1 o (Nat.lt_of_lt_of_le hlt b2),a1 o hlt],fun h2=>?_⟩
   obtain⟨e2,d1,d2⟩:=c2 h2
   exact⟨e2,d1,Nat.le_trans b2 d2⟩
  ·refine⟨fun o hlt=>?_,fun h2=>absurd (h'.own blk (Nat.lt_of_lt_of_le hb h.size) h2) h1⟩
   rw[BX (h'.keep blk (Nat.lt_of_lt_of_le hb h.size) h1),a1 o hlt]
theorem Ext.keeps {w w':World} {g g':G} (h:Ext w g w' g'):HC w g.M w' g'.M:=by
 intro b o v hm hc
 have hb:=Anc hc
 by_cases ho:g.own b
 ·have hsp: ∃e,g.sp b=some e/\o<e:=by
   cases hs:g.sp b with
   |none=>exact absurd (.inl ⟨ho,fun e he=>by rw[hs]at he;cases he⟩) hm
   |some e=>exact⟨e,rfl,Nat.lt_of_not_le fun hle=>hm (.inl ⟨ho,fun e' he'=>by rw[hs]at he';cases he';exact hle⟩)⟩
  obtain⟨e,he,hlt⟩:=hsp
  obtain⟨a1,a2⟩:=h.sp b e hb ho he
  refine⟨?_,by rw[a1 o hlt];exact hc⟩
  rintro(⟨h1,h2⟩|h1)
  ·obtain⟨e',b1,b2⟩:=a2 h1
   have:=h2 e' b1;omega
  ·exact hm (.inr ((h.oth b o).1 h1))
 ·refine⟨?_,?_⟩
  ·rintro(⟨h1,_⟩|h1)
   ·exact ho (h.own b hb h1)
   ·exact hm (.inr ((h.oth b o).1 h1))
  ·rw[BX (h.keep b hb ho)];exact hc
end Go.Am
namespace Go.Am
inductive TK where
 |int (k:IntKind)
 |bool
 |string
 |slice (e:Nat)
 |ptr (e:Nat)
 |struct (fs:List (Nat×Nat))
 |array (n e:Nat)
 |iface
 |func
 |map (k e:Nat)
 |other
def TK.agg:TK->Bool
 |.struct _=>true
 |.array _ _=>true
 |_=>false
structure TI where
 size:Nat
 bytes:Nat
 zero:List T
 kind:TK
abbrev TE:=List (Nat×TI)
def Dj:TypeDesc->TK
 |.int k=>.int k
 |.bool=>.bool
 |.string=>.string
 |.slice e=>.slice e
 |.pointer e=>.ptr e
 |.struct fs=>.struct (fs.toList.map fun f=>(f.offset,f.type))
 |.array n e=>.array n e
 |.interface _=>.iface
 |.func _ _ _=>.func
 |.map k e=>.map k e
 |_=>.other
def Ys:T->Value
 |.bool b=>.bool b
 |.int k n=>.int k n
 |.str s=>.string ⟨s.toArray⟩
 |.slice _ _ _=>.slice none 0 0
 |.nilPtr=>.pointer none
 |.nilIface=>.nilIface
 |.nilFunc=>.nilFunc
 |.nilMap=>.map none
 |_=>undef
def GB:T->Bool
 |.bool _=>true
 |.int _ _=>true
 |.str _=>true
 |.slice _ _ []=>true
 |.nilPtr=>true
 |.nilIface=>true
 |.nilFunc=>true
 |.nilMap=>true
 |_=>false
theorem LV {w:World} {M:Nat->Nat->Prop} {x:T} (h:GB x=true):RelT w M (Ys x) x:=by
 cases x<;>simp[GB]at h<;>try constructor
 case slice m sz es=>cases es<;>simp[GB]at h;constructor
def BZ (ti:TI):Value:=bif ti.kind.agg then .agg (ti.zero.map Ys).toArray else Ys (ti.zero.headD .undef)
def Arf (P:Program) (t:Nat):Bool:=match P.underlying t with
 |some (.struct fs)=> !P.stoodInHeld t&&fs.toList.all (fun f=>f.name != "_")
 |_=>true
def Ah4:TK->Bool
 |.struct _=>true
 |_=>false
structure TeOk1 (P:Program) (t:Nat) (ti:TI):Prop where
 info:(P.info? t).map (fun i=>(i.size,i.bytes,i.zero))=some (ti.size,ti.bytes,some (BZ ti))
 und:(P.underlying t).map Dj=some ti.kind
 const:ti.zero.all GB=true
 len:ti.zero.length=ti.size
 one:ti.kind.agg=false->ti.size=1
 eqs:Ah4 ti.kind=true->Arf P t=true
def CX (P:Program) (te:TE):Prop:= ∀t ti,look te t=some ti->TeOk1 P t ti
section
variable {P:Program} {t:Nat} {ti:TI} (h:TeOk1 P t ti) (w:World)
include h
theorem TeOk1.info': ∃i,P.info? t=some i/\i.size=ti.size/\i.bytes=ti.bytes/\i.zero=some (BZ ti):=by
 have:=h.info
 cases hi:P.info? t with
 |none=>simp[hi]at this
 |some i=>simp[hi]at this;exact⟨i,rfl,this.1,this.2.1,this.2.2⟩
theorem TeOk1.und': ∃d,P.underlying t=some d/\Dj d=ti.kind:=by
 have:=h.und
 cases hi:P.underlying t with
 |none=>simp[hi]at this
 |some d=>simp[hi]at this;exact⟨d,rfl,this⟩
theorem ME: ∃i,(typeInfo t).run P w=.ok i w/\i.size=ti.size/\i.bytes=ti.bytes/\i.zero=some (BZ ti):=by
 obtain⟨i,hi,h1⟩:=h.info'
 exact⟨i,by simp[typeInfo,program,Sem.run,hi],h1⟩
theorem run_underlying: ∃d,(underlying t).run P w=.ok d w/\Dj d=ti.kind:=by
 obtain⟨d,hd,h1⟩:=h.und'
 exact⟨d,by simp[underlying,program,Sem.run,hd],h1⟩
theorem BT:(sizeOf t).run P w=.ok ti.size w:=by
 obtain⟨i,hi,h1,_⟩:=ME h w
 simp[sizeOf,hi,h1]
theorem Do:(zeroValue t).run P w=.ok (BZ ti) w:=by
 obtain⟨i,hi,_,_,h1⟩:=ME h w
 simp[zeroValue,hi,h1]
theorem Ta:(isAgg t).run P w=.ok ti.kind.agg w:=by
 obtain⟨d,hd,h1⟩:=run_underlying h w
 simp only[isAgg,Sem.run_bind,hd,Result.andThen_ok,<-h1]
 cases d<;>simp[Dj,TK.agg]
theorem F7 {e:Nat} (hk:ti.kind=.slice e):(underlying t).run P w=.ok (.slice e) w:=by
 obtain⟨d,hd,h1⟩:=run_underlying h w
 rw[hk]at h1
 cases d<;>simp[Dj]at h1
 subst h1;exact hd
theorem GZ (hk:ti.kind=.string):(underlying t).run P w=.ok .string w:=by
 obtain⟨d,hd,h1⟩:=run_underlying h w
 rw[hk]at h1
 cases d<;>simp[Dj]at h1
 exact hd
theorem Aak {k:IntKind} (hk:ti.kind=.int k):(underlying t).run P w=.ok (.int k) w:=by
 obtain⟨d,hd,h1⟩:=run_underlying h w
 rw[hk]at h1
 cases d<;>simp[Dj]at h1
 subst h1;exact hd
theorem VP (hk:ti.kind=.bool):(underlying t).run P w=.ok .bool w:=by
 obtain⟨d,hd,h1⟩:=run_underlying h w
 rw[hk]at h1
 cases d<;>simp[Dj]at h1
 exact hd
theorem Uz {e:Nat} (hk:ti.kind=.ptr e):(underlying t).run P w=.ok (.pointer e) w:=by
 obtain⟨d,hd,h1⟩:=run_underlying h w
 rw[hk]at h1
 cases d<;>simp[Dj]at h1
 subst h1;exact hd
theorem F8 {n e:Nat} (hk:ti.kind=.array n e):(underlying t).run P w=.ok (.array n e) w:=by
 obtain⟨d,hd,h1⟩:=run_underlying h w
 rw[hk]at h1
 cases d<;>simp[Dj]at h1
 obtain⟨rfl,rfl⟩:=h1;exact hd
theorem NM (hk:ti.kind=.iface): ∃ms,(underlying t).run P w=.ok (.interface ms) w:=by
 obtain⟨d,hd,h1⟩:=run_underlying h w
 rw[hk]at h1
 cases d<;>simp[Dj]at h1
 exact⟨_,hd⟩
theorem IR {fs:List (Nat×Nat)} (hk:ti.kind=.struct fs): ∃gs,(underlying t).run P w=.ok (.struct gs) w/\gs.toList.map (fun f=>(f.offset,f.type))=fs:=by
 obtain⟨d,hd,h1⟩:=run_underlying h w
 rw[hk]at h1
 cases d<;>simp[Dj]at h1
 exact⟨_,hd,h1⟩
end
def ZF:Value->Option T
 |.bool b=>some (.bool b)
 |.int k n=>some (.int k n)
 |.string s=>some (.str s.data.toList)
 |.slice none 0 0=>some (.slice .nil 0 [])
 |.pointer none=>some .nilPtr
 |.nilIface=>some .nilIface
 |.nilFunc=>some .nilFunc
 |.map none=>some .nilMap
 |_=>none
theorem Wt {w:World} {M:Nat->Nat->Prop} {v:Value} {x:T} (h:ZF v=some x):RelT w M v x:=by
 unfold ZF at h
 split at h<;>simp at h<;>subst h<;>constructor
def ev (env:Env):Operand->Option AV
 |.tmp t=>look env t
 |.const v=>match ZF v with
  |some x=>some (.t x)
  |none=>none
 |.func f=>some (.t (.func (.func f) [] []))
 |.global _=>none
theorem AG {w:World} {g:G} {a:Act} {env:Env} (he:AK w g a env) {x:Operand} {y:AV} (h:ev env x=some y):Rel w g (a.eval x) y:=by
 cases x with
 |tmp t=>exact he t y h
 |const v=>
  simp only[ev]at h
  split at h<;>simp at h
  rename_i z hz
  subst h;exact .t _ _ (Wt hz)
 |func f=>
  simp only[ev,Option.some.injEq]at h
  subst h
  exact .t _ _ (.func _ [] [] [] [] rfl rfl Ac Ac)
 |global g=>simp[ev]at h
def IsW (F:Fence):Prop:=F=Fence.wide\/ ∃l,F=Fence.wide.inRound l
theorem IsW.fn {F:Fence} (h:IsW F) (f:FuncId):F.fn f:=by
 rcases h with rfl|⟨l,rfl⟩<;>exact trivial
theorem IsW.depth {F:Fence} (h:IsW F) {p:Prop}:F.depth.isSome=true->p:=by
 rcases h with rfl|⟨l,rfl⟩<;>intro hd<;>simp[Fence.wide]at hd
theorem IsW.calls {F:Fence} (h:IsW F) {n:Nat} {P:Program} {f:FuncId} {args:Array Value} {w:World} {R:Ending->World->Prop} (hc:Calls P f args w R):CallsIn F n P f args w R:=by
 have h0:CallsIn Fence.wide n P f args w R:=callsIn_wide.2 hc
 rcases h with rfl|⟨l,rfl⟩
 ·exact h0
 ·exact h0.inRound l
theorem O9 {P:Program} {ρ:Operand->Value} {o:Oper} {w w':World} {x:Next} (h:(execOp ρ o).run P w=.ok x w') (hx: ∀d,x≠ .defer d): ∀c,o.op≠ .defer c:=by
 intro c hc
 simp only[execOp,hc,Sem.run_bind]at h
 cases hr:(resolve ρ c o.type).run P w with
 |ok d w1=>
  rw[hr]at h
  simp only[Sem.run_pure,Result.andThen_ok,Result.ok.injEq]at h
  exact hx d h.1.symm
 |halt y w1=>rw[hr]at h;cases h
def BJ (P:Program) (o:Oper) (a:Act) (w:World) (R:Value->World->Prop):Prop:=
 ∀(F:Fence),IsW F-> ∀(next:Act->World->Prop) (Q:Exit->Act->World->Prop),(∀v w',R v w'->next (a.put o.dst v) w')->o.wpIn F 0 P a w next Q
theorem BJ.value {P:Program} {o:Oper} {a:Act} {w w':World} {R:Value->World->Prop} {v:Value} (h:(execOp a.eval o).run P w=.ok (.value v) w') (hr:R v w'):
  BJ P o a w R:=fun F hF next Q hn=>by
 refine⟨fun f _=>hF.fn f,?_⟩
 rw[Oper.semAt_eq _ _ _ (O9 h (fun d e=>by cases e)),h];exact hn v w' hr
theorem BJ.skip {P:Program} {o:Oper} {a:Act} {w w':World} {R:Value->World->Prop} (h:(execOp a.eval o).run P w=.ok .skip w') (hr:R undef w'):
  BJ P o a w R:=fun F hF next Q hn=>by
 refine⟨fun f _=>hF.fn f,?_⟩
 rw[Oper.semAt_eq _ _ _ (O9 h (fun d e=>by cases e)),h];exact hn undef w' hr
theorem BJ.enter {P:Program} {o:Oper} {a:Act} {w w':World} {R:Value->World->Prop} {f:FuncId} {args:Array Value}
  (h:(execOp a.eval o).run P w=.ok (.enter f args) w') (hr:Calls P f args w' fun e w''=> ∃v,e=.returned v/\R v w''):
  BJ P o a w R:=fun F hF next Q hn=>by
 refine⟨fun f _=>hF.fn f,?_⟩
 rw[Oper.semAt_eq _ _ _ (O9 h (fun d e=>by cases e)),h]
 exact⟨hF.depth,(hF.calls hr).mono fun e w'' ⟨v,he,hv⟩=>by subst he;exact hn v w'' hv⟩
def V8 (op:BinOp) (k:IntKind) (a b:Int):Option T:=
 match op with
 |.add=>some (.int k (k.wrap (a+b)))
 |.sub=>some (.int k (k.wrap (a-b)))
 |.mul=>some (.int k (k.wrap (a*b)))
 |.quo=>if b=0 then none else some (.int k (k.wrap (a.tdiv b)))
 |.rem=>if b=0 then none else some (.int k (a.tmod b))
 |.and=>some (.int k (k.wrap (BitVec.ofInt k.bits a&&&BitVec.ofInt k.bits b).toNat))
 |.or=>some (.int k (k.wrap (BitVec.ofInt k.bits a|||BitVec.ofInt k.bits b).toNat))
 |.eql=>some (.bool (a==b))
 |.neq=>some (.bool (a !=b))
 |.lss=>some (.bool (decide (a<b)))
 |.leq=>some (.bool (decide (a<=b)))
 |.gtr=>some (.bool (decide (b<a)))
 |.geq=>some (.bool (decide (b<=a)))
 |_=>none
def UA (op:BinOp) (k:IntKind) (a b:Int):Option T:=
 match op with
 |.shl=>if b<0 then none else some (.int k (k.wrap (a*2^(min b.toNat k.bits))))
 |.shr=>if b<0 then none else some (.int k (a.fdiv (2^(min b.toNat k.bits))))
 |_=>none
def Lj:BinOp->Bool
 |.shl=>true
 |.shr=>true
 |_=>false
def NC:List UInt8->List UInt8->Bool:=Op.bytesLess
def Su (op:BinOp) (a b:List UInt8):Option T:=
 match op with
 |.add=>if a.length+b.length<9223372036854775808 then some (.str (a++b))else none
 |.eql=>some (.bool (a==b))
 |.neq=>some (.bool (!(a==b)))
 |.lss=>some (.bool (NC a b))
 |.leq=>some (.bool (NC a b||a==b))
 |.gtr=>some (.bool (!(NC a b||a==b)))
 |.geq=>some (.bool (!NC a b))
 |_=>none
def Ey:Operand->Bool
 |.const _=>true
 |_=>false
def O7 (op:BinOp) (r:Bool):Option T:=
 match op with
 |.eql=>some (.bool r)
 |.neq=>some (.bool (!r))
 |_=>none
end Go.Am
namespace Go.Am
def evL (env:Env):List Operand->Option (List AV)
 |[]=>some []
 |x::r=>match ev env x with
  |some y=>match evL env r with
   |some ys=>some (y::ys)
   |none=>none
  |none=>none
def allT:List AV->Option (List T)
 |[]=>some []
 |.t x::r=>match allT r with
  |some xs=>some (x::xs)
  |none=>none
 |_::_=>none
def Ajv (te:TE) (op:BinOp) (t:Nat) (cst:Bool) (p q:AV):Option AV:=
 match p,q with
 |.t (.int k a),.t (.int k' b)=>
  match Lj op with
  |true=>match UA op k a b with
   |some r=>some (.t r)
   |none=>none
  |false=>if k=k' then(match V8 op k a b with
   |some r=>some (.t r)
   |none=>none)else none
 |.t (.str a),.t (.str b)=>match Su op a b with
  |some r=>some (.t r)
  |none=>none
 |.t (.bool a),.t (.bool b)=>match look te t with
  |some ⟨_,_,_,.bool⟩=>(match O7 op (a==b)with
   |some r=>some (.t r)
   |none=>none)
  |_=>none
 |.t .nilIface,.t .nilIface=>match look te t,cst with
  |some ⟨_,_,_,.iface⟩,true=>(match O7 op true with
   |some r=>some (.t r)
   |none=>none)
  |_,_=>none
 |.t (.iface _ _),.t .nilIface=>match look te t with
  |some ⟨_,_,_,.iface⟩=>(match O7 op false with
   |some r=>some (.t r)
   |none=>none)
  |_=>none
 |.t (.slice m _ es),.t (.slice .nil _ [])=>match look te t with
  |some ⟨_,_,_,.slice _⟩=>(match m,es with
   |.nil,_=>(match O7 op true with
    |some r=>some (.t r)
    |none=>none)
   |_,_::_=>(match O7 op false with
    |some r=>some (.t r)
    |none=>none)
   |_,[]=>none)
  |_=>none
 |.iface _ _,.t .nilIface=>match look te t with
  |some ⟨_,_,_,.iface⟩=>(match O7 op false with
   |some r=>some (.t r)
   |none=>none)
  |_=>none
 |.ref _ _,.t .nilPtr=>match look te t with
  |some ⟨_,_,_,.ptr _⟩=>(match O7 op false with
   |some r=>some (.t r)
   |none=>none)
  |_=>none
 |.t (.ptr _),.t .nilPtr=>match look te t with
  |some ⟨_,_,_,.ptr _⟩=>(match O7 op false with
   |some r=>some (.t r)
   |none=>none)
  |_=>none
 |.t .nilPtr,.t .nilPtr=>match look te t with
  |some ⟨_,_,_,.ptr _⟩=>(match O7 op true with
   |some r=>some (.t r)
   |none=>none)
  |_=>none
 |_,_=>none
def ED {α:Type}:Nat->List α->Option (List α)
 |0,_=>some []
 |_+1,[]=>none
 |n+1,x::r=>match ED n r with
  |some ys=>some (x::ys)
  |none=>none
def OR (te:TE) (t off:Nat) (cs:List AV):Option AV:=
 match look te t with
 |some ti=>match ti.kind.agg with
  |true=>match ED ti.size (cs.drop off)with
   |some ys=>some (.agg ys)
   |none=>none
  |false=>cs[off]?
 |none=>none
def eqF (f:Nat->AV->AV->Option Bool) (te:TE) (xs ys:List AV):List (Nat×Nat)->Option Bool
 |[]=>some true
 |(off,ft)::r=>match OR te ft off xs with
  |some p=>match OR te ft off ys with
   |some q=>match f ft p q with
    |some b=>match eqF f te xs ys r with
     |some b'=>some (b&&b')
     |none=>none
    |none=>none
   |none=>none
  |none=>none
def eqA (te:TE):Nat->Nat->AV->AV->Option Bool
 |0,_,_,_=>none
 |d+1,t,p,q=>match look te t with
  |some ⟨_,_,_,.int _⟩=>(match p,q with
   |.t (.int k a),.t (.int k' b)=>if k=k' then some (a==b)else none
   |_,_=>none)
  |some ⟨_,_,_,.bool⟩=>(match p,q with
   |.t (.bool a),.t (.bool b)=>some (a==b)
   |_,_=>none)
  |some ⟨_,_,_,.string⟩=>(match p,q with
   |.t (.str a),.t (.str b)=>some (a==b)
   |_,_=>none)
  |some ⟨_,_,_,.struct fs⟩=>(match p,q with
   |.agg xs,.agg ys=>eqF (eqA te d) te xs ys fs
   |_,_=>none)
  |_=>none
def XS (te:TE) (op:BinOp) (t:Nat) (cst:Bool) (p q:AV):Option AV:=
 match p with
 |.agg xs=>(match q with
  |.agg ys=>(match eqA te 8 t (.agg xs) (.agg ys)with
   |some b=>(match O7 op b with
    |some r=>some (.t r)
    |none=>none)
   |none=>none)
  |_=>none)
 |p=>Ajv te op t cst p q
def Ain (te:TE) (t i:Nat):Option (Nat×Nat):=
 match look te t with
 |some ⟨_,_,_,.struct fs⟩=>fs[i]?
 |_=>none
def Hu (te:TE) (t i:Nat) (x:AV):Option AV:=
 match Ain te t i with
 |some (off,ft)=>match look te ft with
  |some fi=>match fi.size with
   |0=>none
   |_+1=>match x with
    |.ref b o=>some (.ref b (o+off))
    |.eref b sz k o=>some (.eref b sz k (o+off))
    |.t (.ptr cs)=>some (.t (.ptr (cs.drop off)))
    |_=>none
  |none=>none
 |none=>none
def L8 (n:Int):Option Nat:=
 match n with
 |.ofNat k=>some k
 |.negSucc _=>none
def DE (te:TE) (t:Nat) (x i:AV):Option AV:=
 match i with
 |.t (.int _ n)=>match L8 n with
  |some k=>match look te t with
   |some ⟨_,_,_,.slice e⟩=>match look te e with
    |some ei=>match x with
     |.t (.slice _ sz es)=>if sz=ei.size then(match es[k]? with
      |some c=>some (.t (.ptr c))
      |none=>none)else none
     |.row b sz lo len=>if sz=ei.size then(if k<len then some (.eref b sz (lo+k) 0)else none)else none
     |_=>none
    |none=>none
   |some ⟨_,_,_,.array len e⟩=>match look te e with
    |some ei=>match x with
     |.ref b off=>if k<len then some (.ref b (off+k*ei.size))else none
     |_=>none
    |none=>none
   |_=>none
  |none=>none
 |_=>none
def Zp (te:TE) (t:Nat) (x i:AV):Option AV:=
 match i with
 |.t (.int _ n)=>match L8 n with
  |some k=>match look te t with
   |some ⟨_,_,_,.string⟩=>match x with
    |.t (.str s)=>match s[k]? with
     |some c=>some (.t (.int .u8 (c.toNat:Int)))
     |none=>none
    |_=>none
   |some ⟨_,_,_,.array n e⟩=>match x with
    |.agg cs=>match Nat.blt k n with
     |true=>match look te e with
      |some ei=>OR te e (k*ei.size) cs
      |none=>none
     |false=>none
    |_=>none
   |_=>none
  |none=>none
 |_=>none
def Xw (x:AV) (i:Nat):Option AV:=
 match x with
 |.tuple vs=>vs[i]?
 |_=>none
def Oi (x:AV):Option AV:=
 match x with
 |.ref _ _=>some x
 |.eref _ _ _ _=>some x
 |.t (.ptr _)=>some x
 |.t (.iface _ _)=>some x
 |.iface _ _=>some x
 |.t (.func (.func _) _ _)=>some x
 |.func (.func _) _ _=>some x
 |_=>none
def Mc (te:TE) (t:Nat) (x:AV):Option AV:=
 match look te t with
 |some ti=>match ti.kind with
  |.iface=>none
  |_=>match x with
   |.t y=>some (.t (.iface t y))
   |.agg cs=>match allT cs with
    |some ys=>some (.t (.iface t (.agg ys)))
    |none=>some (.iface t x)
   |_=>some (.iface t x)
 |none=>none
def Lh (fn:Fn) (f c:List AV):AV:=
 match allT f with
 |some fs=>match allT c with
  |some cs=>.t (.func fn fs cs)
  |none=>.func fn f c
 |none=>.func fn f c
def Sf (te:TE) (d:Nat) (x:AV):Option AV:=
 match look te d with
 |some ⟨_,_,_,.int k⟩=>match x with
  |.t (.int _ n)=>some (.t (.int k (k.wrap n)))
  |_=>none
 |some ⟨_,_,_,.string⟩=>match x with
  |.t (.str s)=>some (.t (.str s))
  |_=>none
 |_=>none
def unV (op:UnOp) (x:AV):Option AV:=
 match x with
 |.t (.bool b)=>match op with
  |.not=>some (.t (.bool (!b)))
  |_=>none
 |.t (.int k n)=>match op with
  |.neg=>some (.t (.int k (k.wrap (0-n))))
  |_=>none
 |_=>none
def Asq (te:TE) (t:Nat) (x:AV):Option AV:=
 match look te t with
 |some ⟨_,_,_,.string⟩=>match x with
  |.t (.str s)=>some (.t (.int .i64 (s.length:Int)))
  |_=>none
 |some ⟨_,_,_,.slice _⟩=>match x with
  |.t (.slice _ _ es)=>some (.t (.int .i64 (es.length:Int)))
  |.row _ _ _ n=>some (.t (.int .i64 (n:Int)))
  |_=>none
 |_=>none
def BA (env:Env) (x:Option Operand) (dflt:Nat):Option Nat:=
 match x with
 |none=>some dflt
 |some o=>match ev env o with
  |some (.t (.int _ n))=>L8 n
  |_=>none
def EN (m:SM) (b:Bool):SM:=
 match m with
 |.nil=>.nil
 |.full=>(match b with
  |true=>.full
  |false=>.any)
 |.any=>.any
 |.phys _ _=>.any
def Gv (m:SM):SM:=
 match m with
 |.nil=>.nil
 |.full=>.full
 |.any=>.full
 |.phys _ _=>.full
theorem Adt (m:SM) (b:Bool) (p N:Nat):EN m b≠ .phys p N:=by cases m<;>cases b<;>simp[EN]
theorem Ads (m:SM) (p N:Nat):Gv m≠ .phys p N:=by cases m<;>simp[Gv]
def JR (te:TE) (t:Nat) (x:AV) (env:Env) (lo hi mx:Option Operand):Option AV:=
 match look te t with
 |some ⟨_,_,_,.string⟩=>match x,mx with
  |.t (.str s),none=>match BA env hi s.length with
   |some h=>match BA env lo 0 with
    |some l=>if h<=s.length then(if l<=h then some (.t (.str ((s.drop l).take (h-l))))else none)else none
    |none=>none
   |none=>none
  |_,_=>none
 |some ⟨_,_,_,.slice e⟩=>match look te e with
  |some ei=>match x with
   |.t (.slice m sz es)=>match BA env hi es.length with
    |some h=>match BA env lo 0 with
     |some l=>if sz=ei.size then(if h<=es.length then(if l<=h then(match mx with
       |none=>some (.t (.slice (EN m (decide (h=es.length))) sz ((es.drop l).take (h-l))))
       |some _=>match hi with
        |some _=>match BA env mx 0 with
         |some c=>if c=h then some (.t (.slice (Gv m) sz ((es.drop l).take (h-l))))else none
         |none=>none
        |none=>none)else none)else none)else(match es,m with
       |[],.nil=>(match h,l with
        |0,0=>(match mx with
         |none=>some (.t (.slice .nil ei.size []))
         |some _=>(match hi,BA env mx 0 with
          |some _,some 0=>some (.t (.slice .nil ei.size []))
          |_,_=>none))
        |_,_=>none)
       |_,_=>none)
     |none=>none
    |none=>none
   |.row b sz rl len=>match BA env hi len with
    |some h=>match BA env lo 0 with
     |some l=>if sz=ei.size then(if h<=len then(if l<=h then(match mx with
       |none=>some (.row b sz (rl+l) (h-l))
       |some _=>none)else none)else none)else none
     |none=>none
    |none=>none
   |_=>none
  |none=>none
 |_=>none
def Asl (p q:Int):Int:=if q>p then q else p
def Asj (p q:Int):Int:=if q<p then q else p
def Ce (te:TE) (op:Op) (env:Env):Option AV:=
 match op with
 |.move x=>ev env x
 |.assign x=>ev env x
 |.pick c a b=>match ev env c with
  |some (.t (.bool p))=>(match p with
   |true=>ev env a
   |false=>ev env b)
  |_=>none
 |.binOp op t x y _=>match ev env x with
  |some p=>match ev env y with
   |some q=>XS te op t (Ey x||Ey y) p q
   |none=>none
  |none=>none
 |.unOp op _ x=>match ev env x with
  |some p=>unV op p
  |none=>none
 |.convert s d x=>match ev env x with
  |some p=>match look te s with
   |some _=>Sf te d p
   |none=>none
  |none=>none
 |.makeInterface t x=>match ev env x with
  |some p=>Mc te t p
  |none=>none
 |.makeFunc fn f c=>match evL env f.toList with
  |some fs=>match evL env c.toList with
   |some cs=>some (Lh fn fs cs)
   |none=>none
  |none=>none
 |.nilCheck x=>match ev env x with
  |some p=>Oi p
  |none=>none
 |.fieldAddr t x i=>match ev env x with
  |some p=>Hu te t i p
  |none=>none
 |.field t x i=>match ev env x with
  |some (.agg cs)=>(match Ain te t i with
   |some (off,ft)=>OR te ft off cs
   |none=>none)
  |_=>none
 |.indexAddr t x i=>match ev env x with
  |some p=>match ev env i with
   |some q=>DE te t p q
   |none=>none
  |none=>none
 |.index t x i=>match ev env x with
  |some p=>match ev env i with
   |some q=>Zp te t p q
   |none=>none
  |none=>none
 |.extract x i=>match ev env x with
  |some p=>Xw p i
  |none=>none
 |.slice t x lo hi mx=>match ev env x with
  |some p=>JR te t p env lo hi mx
  |none=>none
 |.call c=>match c.callee with
  |.builtin .max=>match c.args.toList with
   |[x,y]=>match ev env x with
    |some (.t (.int k p))=>(match ev env y with
     |some (.t (.int _ q))=>some (.t (.int k (Asl p q)))
     |_=>none)
    |_=>none
   |_=>none
  |.builtin .min=>match c.args.toList with
   |[x,y]=>match ev env x with
    |some (.t (.int k p))=>(match ev env y with
     |some (.t (.int _ q))=>some (.t (.int k (Asj p q)))
     |_=>none)
    |_=>none
   |_=>none
  |.builtin .len=>match c.args.toList with
   |[x]=>match ev env x with
    |some p=>match c.argTypes.toList with
     |t::_=>Asq te t p
     |[]=>none
    |none=>none
   |_=>none
  |_=>none
 |_=>none
end Go.Am
namespace Go.Am
theorem Aw {w:World} {g:G} {v:Value} {x:T} (h:Rel w g v (.t x)):RelT w g.M v x:=by
 cases h;assumption
theorem C3 {w:World} {g:G} {v:Value} {k:IntKind} {n:Int} (h:Rel w g v (.t (.int k n))):v=.int k n:=by
 cases Aw h;rfl
theorem EE {w:World} {g:G} {v:Value} {b:Bool} (h:Rel w g v (.t (.bool b))):v=.bool b:=by
 cases Aw h;rfl
theorem Fm {w:World} {g:G} {v:Value} {s:List UInt8} (h:Rel w g v (.t (.str s))):v=.string ⟨s.toArray⟩:=by
 cases Aw h;rfl
theorem Acd (s:List UInt8):(⟨s.toArray⟩:ByteArray).toList=s:=by
 rw[ByteArray.toList_eq]
theorem ZL {P:Program} {w:World} {op:BinOp} {t:Nat} {x y:Operand} {k:IntKind} {a b:Int} {r:T} (hs:Lj op=false) (h:V8 op k a b=some r):
  ∃v,(do eqGuard op t x y (.int k a) (.int k b);binOp op t (.int k a) (.int k b):Sem Value).run P w=.ok v w/\ ∀M,RelT w M v r:=by
 have hg:(eqGuard op t x y (.int k a) (.int k b)).run P w=.ok () w:=by cases op<;>simp[eqGuard]
 simp only[Sem.run_bind,hg,Result.andThen_ok]
 cases op<;>(try(simp[Lj]at hs;done))<;>(try(simp[V8]at h;done))<;>simp only[V8]at h
 case quo=>
  split at h
  ·simp at h
  ·simp at h;subst h;rename_i h0
   exact⟨.int k (k.wrap (a.tdiv b)),by simp[binOp,Op.intDiv,h0],fun M=>.int _ _⟩
 case rem=>
  split at h
  ·simp at h
  ·simp at h;subst h;rename_i h0
   exact⟨.int k (a.tmod b),by simp[binOp,Op.intDiv,h0],fun M=>.int _ _⟩
 all_goals
  simp only[Option.some.injEq]at h
  subst h
  simp[binOp,Op.intArith,Op.intBits,Op.intCmp]
  intros;constructor
theorem Y2 {P:Program} {w:World} {op:BinOp} {t:Nat} {x y:Operand} {k k':IntKind} {a b:Int} {r:T} (hs:Lj op=true) (h:UA op k a b=some r):
  ∃v,(do eqGuard op t x y (.int k a) (.int k' b);binOp op t (.int k a) (.int k' b):Sem Value).run P w=.ok v w/\ ∀M,RelT w M v r:=by
 have hg:(eqGuard op t x y (.int k a) (.int k' b)).run P w=.ok () w:=by cases op<;>simp[eqGuard]
 simp only[Sem.run_bind,hg,Result.andThen_ok]
 cases op<;>simp[Lj]at hs<;>simp[UA]at h<;>obtain⟨h0,h⟩:=h<;>subst h<;>
  (have h0': ¬b<0:=by omega)<;>simp[binOp,Op.shift,h0']<;>intros<;>constructor
theorem ZK {P:Program} {w:World} {op:BinOp} {t:Nat} {x y:Operand} {a b:List UInt8} {r:T} (h:Su op a b=some r):
  ∃v,(do eqGuard op t x y (.string ⟨a.toArray⟩) (.string ⟨b.toArray⟩);binOp op t (.string ⟨a.toArray⟩) (.string ⟨b.toArray⟩):Sem Value).run P w=.ok v w/\ ∀M,RelT w M v r:=by
 have hg:(eqGuard op t x y (.string ⟨a.toArray⟩) (.string ⟨b.toArray⟩)).run P w=.ok () w:=by cases op<;>simp[eqGuard]
 simp only[Sem.run_bind,hg,Result.andThen_ok]
 have happ:(⟨a.toArray⟩:ByteArray)++(⟨b.toArray⟩:ByteArray)=⟨(a++b).toArray⟩:=by
  apply ByteArray.ext;simp
 cases op<;>(try(simp[Su]at h;done))<;>simp only[Su]at h
 case add=>
  split at h
  ·simp at h;subst h
   rename_i h0
   simp only[binOp,Op.stringOp]
   have hn: ¬(((ByteArray.size ⟨a.toArray⟩+ByteArray.size ⟨b.toArray⟩:Nat):Int)>IntKind.i64.max):=by
    simp[ByteArray.size,IntKind.max,IntKind.signed,IntKind.bits];omega
   rw[if_neg hn]
   exact⟨_,rfl,fun M=>by rw[happ];exact .str _⟩
  ·simp at h
 all_goals
  simp only[Option.some.injEq]at h
  subst h
  simp[binOp,Op.stringOp,Acd,NC]
  intros;constructor
theorem Ek {w:World} {M:Nat->Nat->Prop} {op:BinOp} {b:Bool} {r:T} (h:O7 op b=some r):(op=.eql/\RelT w M (.bool b) r)\/(op=.neq/\RelT w M (.bool (!b)) r):=by
 cases op<;>simp[O7]at h<;>subst h
 ·exact .inl ⟨rfl,.bool _⟩
 ·exact .inr ⟨rfl,.bool _⟩
theorem TT {P:Program} {w:World} {d t:Nat} {a b:Bool} (hu:(underlying t).run P w=.ok .bool w):(Op.equalIn (d+1) t (.bool a) (.bool b)).run P w=.ok (a==b) w:=by
 unfold Op.equalIn;simp[hu]
theorem X1 {P:Program} {w:World} {d t:Nat} {ms} (hu:(underlying t).run P w=.ok (.interface ms) w):(Op.equalIn (d+1) t .nilIface .nilIface).run P w=.ok true w:=by
 unfold Op.equalIn;simp[hu]
theorem Ju {P:Program} {w:World} {d t i:Nat} {z:Value} {ms} (hu:(underlying t).run P w=.ok (.interface ms) w):(Op.equalIn (d+1) t (.iface i z) .nilIface).run P w=.ok false w:=by
 unfold Op.equalIn;simp[hu]
theorem Fy {P:Program} {w:World} {t:Nat} {u v:Value} {b:Bool} (h:(Op.equalIn (9999+1) t u v).run P w=.ok b w)
  (h1:binOp .eql t u v=do pure (.bool (<-Op.equal t u v))):(binOp .eql t u v).run P w=.ok (.bool b) w:=by
 rw[h1];unfold Op.equal Op.maxDepth
 simp only[Sem.run_bind,h,Result.andThen_ok,Sem.run_pure]
theorem H8 {P:Program} {w:World} {t:Nat} {u v:Value} {b:Bool} (h:(Op.equalIn (9999+1) t u v).run P w=.ok b w)
  (h1:binOp .neq t u v=do pure (.bool (!(<-Op.equal t u v)))):(binOp .neq t u v).run P w=.ok (.bool !b) w:=by
 rw[h1];unfold Op.equal Op.maxDepth
 simp only[Sem.run_bind,h,Result.andThen_ok,Sem.run_pure]
theorem H3 {P:Program} {w:World} {d t e:Nat} (hu:(underlying t).run P w=.ok (.slice e) w):(Op.equalIn (d+1) t (.slice none 0 0) (.slice none 0 0)).run P w=.ok true w:=by
 unfold Op.equalIn;simp[hu]
theorem EJ {P:Program} {w:World} {d t e l c:Nat} {a:Addr} (hu:(underlying t).run P w=.ok (.slice e) w):(Op.equalIn (d+1) t (.slice (some a) l c) (.slice none 0 0)).run P w=.ok false w:=by
 unfold Op.equalIn;simp[hu]
theorem N5 {P:Program} {w:World} {d t e:Nat} {a:Addr} (hu:(underlying t).run P w=.ok (.pointer e) w):(Op.equalIn (d+1) t (.pointer (some a)) (.pointer none)).run P w=.ok false w:=by
 unfold Op.equalIn;simp[hu]
theorem TS {P:Program} {w:World} {d t e:Nat} (hu:(underlying t).run P w=.ok (.pointer e) w):(Op.equalIn (d+1) t (.pointer none) (.pointer none)).run P w=.ok true w:=by
 unfold Op.equalIn;simp[hu]
theorem O0 {P:Program} {w:World} {op:BinOp} {t:Nat} {x y:Operand} {a:Option Addr}:(eqGuard op t x y (.pointer a) (.pointer none)).run P w=.ok () w:=by
 cases op<;>simp[eqGuard]
theorem Hq {P:Program} {w:World} {op:BinOp} {t:Nat} {x y:Operand} {a:Option Addr} {l c:Nat}:(eqGuard op t x y (.slice a l c) (.slice none 0 0)).run P w=.ok () w:=by
 cases op<;>simp[eqGuard]
theorem Abk {P:Program} {w:World} {op:BinOp} {t:Nat} {x y:Operand} {a b:Bool}:(eqGuard op t x y (.bool a) (.bool b)).run P w=.ok () w:=by
 cases op<;>simp[eqGuard]
theorem Nx {P:Program} {w:World} {op:BinOp} {t:Nat} {x y:Operand} {i:Nat} {z:Value}:(eqGuard op t x y (.iface i z) .nilIface).run P w=.ok () w:=by
 cases op<;>simp[eqGuard]
theorem As5 {P:Program} {w:World} {op:BinOp} {t:Nat} {x y:Operand} (hc:(Ey x||Ey y)=true):(eqGuard op t x y .nilIface .nilIface).run P w=.ok () w:=by
 cases op<;>cases x<;>cases y<;>simp[Ey]at hc<;>simp[eqGuard]
theorem Aju {P:Program} {te:TE} (hte:CX P te) {w:World} {g:G} {op:BinOp} {t:Nat} {x y:Operand} {u v:Value} {p q r:AV}
  (h:Ajv te op t (Ey x||Ey y) p q=some r) (hp:Rel w g u p) (hq:Rel w g v q):
  ∃z,(do eqGuard op t x y u v;binOp op t u v:Sem Value).run P w=.ok z w/\Rel w g z r:=by
 unfold Ajv at h
 split at h
 ·rename_i k a k' b
  rw[C3 hp,C3 hq]
  split at h
  ·rename_i hs
   split at h<;>simp at h
   rename_i z hz;subst h
   obtain⟨z',h1,h2⟩:=Y2 (P:=P) (w:=w) (t:=t) (x:=x) (y:=y) (k':=k') hs hz
   exact⟨z',h1,.t _ _ (h2 _)⟩
  ·rename_i hs
   split at h
   ·rename_i hk;subst hk
    split at h<;>simp at h
    rename_i z hz;subst h
    obtain⟨z',h1,h2⟩:=ZL (P:=P) (w:=w) (t:=t) (x:=x) (y:=y) hs hz
    exact⟨z',h1,.t _ _ (h2 _)⟩
   ·simp at h
 ·rw[Fm hp,Fm hq]
  split at h<;>simp at h
  rename_i z hz;subst h
  obtain⟨z',h1,h2⟩:=ZK (P:=P) (w:=w) (t:=t) (x:=x) (y:=y) hz
  exact⟨z',h1,.t _ _ (h2 _)⟩
 ·rename_i a b
  rw[EE hp,EE hq]
  split at h
  ·rename_i i1 i2 i3 hl
   split at h<;>simp at h
   rename_i z hz;subst h
   have hu:=VP (hte _ _ hl) w rfl
   rcases Ek (w:=w) (M:=g.M) hz with⟨rfl,hr⟩|⟨rfl,hr⟩
   ·exact⟨_,by simp only[Sem.run_bind,Abk,Result.andThen_ok];exact Fy (TT hu) rfl,.t _ _ hr⟩
   ·exact⟨_,by simp only[Sem.run_bind,Abk,Result.andThen_ok];exact H8 (TT hu) rfl,.t _ _ hr⟩
  ·simp at h
 ·split at h
  ·rename_i i1 i2 i3 hl hc
   split at h<;>simp at h
   rename_i z hz;subst h
   have hu:u=.nilIface:=by cases Aw hp;rfl
   have hv:v=.nilIface:=by cases Aw hq;rfl
   subst hu;subst hv
   obtain⟨ms,hu⟩:=NM (hte _ _ hl) w rfl
   have hgd:=fun op=>As5 (P:=P) (w:=w) (op:=op) (t:=t) hc
   rcases Ek (w:=w) (M:=g.M) hz with⟨rfl,hr⟩|⟨rfl,hr⟩
   ·exact⟨_,by simp only[Sem.run_bind,hgd,Result.andThen_ok];exact Fy (X1 hu) rfl,.t _ _ hr⟩
   ·exact⟨_,by simp only[Sem.run_bind,hgd,Result.andThen_ok];exact H8 (X1 hu) rfl,.t _ _ hr⟩
  ·simp at h
 ·split at h
  ·rename_i i1 i2 i3 hl
   split at h<;>simp at h
   rename_i z hz;subst h
   obtain⟨z0,hu⟩: ∃z0,u=.iface _ z0:=by cases Aw hp;exact⟨_,rfl⟩
   have hv:v=.nilIface:=by cases Aw hq;rfl
   subst hu;subst hv
   obtain⟨ms,hu⟩:=NM (hte _ _ hl) w rfl
   rcases Ek (w:=w) (M:=g.M) hz with⟨rfl,hr⟩|⟨rfl,hr⟩
   ·exact⟨_,by simp only[Sem.run_bind,Nx,Result.andThen_ok];exact Fy (Ju hu) rfl,.t _ _ hr⟩
   ·exact⟨_,by simp only[Sem.run_bind,Nx,Result.andThen_ok];exact H8 (Ju hu) rfl,.t _ _ hr⟩
  ·simp at h
 ·rename_i m sz es sz'
  split at h
  ·rename_i i1 i2 i3 e hl
   have hu:=F7 (hte _ _ hl) w rfl
   have hv:v=.slice none 0 0:=by
    have:=Aw hq
    cases this with
    |sliceNil=>rfl
    |sliceZ _ _ _ hm=>exact absurd rfl hm
    |slice _ _ _ _ _ _ _ _ _ _ _ hm=>exact absurd rfl hm
   subst hv
   split at h
   ·have hv:u=.slice none 0 0:=by
     have:=Aw hp
     cases this with
     |sliceNil=>rfl
     |sliceZ _ _ _ hm=>exact absurd rfl hm
     |slice _ _ _ _ _ _ _ _ _ _ _ hm=>exact absurd rfl hm
    subst hv
    split at h<;>simp at h
    rename_i z hz;subst h
    rcases Ek (w:=w) (M:=g.M) hz with⟨rfl,hr⟩|⟨rfl,hr⟩
    ·exact⟨_,by simp only[Sem.run_bind,Hq,Result.andThen_ok];exact Fy (H3 hu) rfl,.t _ _ hr⟩
    ·exact⟨_,by simp only[Sem.run_bind,Hq,Result.andThen_ok];exact H8 (H3 hu) rfl,.t _ _ hr⟩
   ·obtain⟨a,l,c,hv⟩: ∃a l c,u=.slice (some a) l c:=by
     have:=Aw hp
     cases this with
     |slice=>exact⟨_,_,_,rfl⟩
    subst hv
    split at h<;>simp at h
    rename_i z hz;subst h
    rcases Ek (w:=w) (M:=g.M) hz with⟨rfl,hr⟩|⟨rfl,hr⟩
    ·exact⟨_,by simp only[Sem.run_bind,Hq,Result.andThen_ok];exact Fy (EJ hu) rfl,.t _ _ hr⟩
    ·exact⟨_,by simp only[Sem.run_bind,Hq,Result.andThen_ok];exact H8 (EJ hu) rfl,.t _ _ hr⟩
   ·simp at h
  ·simp at h
 ·split at h
  ·rename_i i1 i2 i3 hl
   split at h<;>simp at h
   rename_i z hz;subst h
   obtain⟨z0,hu⟩: ∃z0,u=.iface _ z0:=by cases hp;exact⟨_,rfl⟩
   have hv:v=.nilIface:=by cases Aw hq;rfl
   subst hu;subst hv
   obtain⟨ms,hu⟩:=NM (hte _ _ hl) w rfl
   rcases Ek (w:=w) (M:=g.M) hz with⟨rfl,hr⟩|⟨rfl,hr⟩
   ·exact⟨_,by simp only[Sem.run_bind,Nx,Result.andThen_ok];exact Fy (Ju hu) rfl,.t _ _ hr⟩
   ·exact⟨_,by simp only[Sem.run_bind,Nx,Result.andThen_ok];exact H8 (Ju hu) rfl,.t _ _ hr⟩
  ·simp at h
 ·split at h
  ·rename_i i1 i2 i3 e hl
   split at h<;>simp at h
   rename_i z hz;subst h
   obtain⟨a0,hu⟩: ∃a0,u=.pointer (some a0):=by cases hp;exact⟨_,rfl⟩
   have hv:v=.pointer none:=by cases Aw hq;rfl
   subst hu;subst hv
   have hu:=Uz (hte _ _ hl) w rfl
   rcases Ek (w:=w) (M:=g.M) hz with⟨rfl,hr⟩|⟨rfl,hr⟩
   ·exact⟨_,by simp only[Sem.run_bind,O0,Result.andThen_ok];exact Fy (N5 hu) rfl,.t _ _ hr⟩
   ·exact⟨_,by simp only[Sem.run_bind,O0,Result.andThen_ok];exact H8 (N5 hu) rfl,.t _ _ hr⟩
  ·simp at h
 ·split at h
  ·rename_i i1 i2 i3 e hl
   split at h<;>simp at h
   rename_i z hz;subst h
   obtain⟨a0,hu⟩: ∃a0,u=.pointer (some a0):=by cases Aw hp;exact⟨_,rfl⟩
   have hv:v=.pointer none:=by cases Aw hq;rfl
   subst hu;subst hv
   have hu:=Uz (hte _ _ hl) w rfl
   rcases Ek (w:=w) (M:=g.M) hz with⟨rfl,hr⟩|⟨rfl,hr⟩
   ·exact⟨_,by simp only[Sem.run_bind,O0,Result.andThen_ok];exact Fy (N5 hu) rfl,.t _ _ hr⟩
   ·exact⟨_,by simp only[Sem.run_bind,O0,Result.andThen_ok];exact H8 (N5 hu) rfl,.t _ _ hr⟩
  ·simp at h
 ·split at h
  ·rename_i i1 i2 i3 e hl
   split at h<;>simp at h
   rename_i z hz;subst h
   have hu:u=.pointer none:=by cases Aw hp;rfl
   have hv:v=.pointer none:=by cases Aw hq;rfl
   subst hu;subst hv
   have hu:=Uz (hte _ _ hl) w rfl
   rcases Ek (w:=w) (M:=g.M) hz with⟨rfl,hr⟩|⟨rfl,hr⟩
   ·exact⟨_,by simp only[Sem.run_bind,O0,Result.andThen_ok];exact Fy (TS hu) rfl,.t _ _ hr⟩
   ·exact⟨_,by simp only[Sem.run_bind,O0,Result.andThen_ok];exact H8 (TS hu) rfl,.t _ _ hr⟩
  ·simp at h
 ·simp at h
end Go.Am
namespace Go.Am
theorem N2 {w:World} {g:G} {a:Act} {env:Env} (he:AK w g a env): ∀{l:List Operand} {ys:List AV},evL env l=some ys->
  l.length=ys.length/\ ∀(i:Nat) v x,(l.map a.eval)[i]?=some v->ys[i]?=some x->Rel w g v x
 |[],ys,h=>by simp[evL]at h;subst h;simp
 |o::r,ys,h=>by
  simp only[evL]at h
  split at h
  ·rename_i y hy
   split at h
   ·rename_i zs hz
    simp at h;subst h
    obtain⟨h1,h2⟩:=N2 he hz
    refine⟨by simp[h1],fun i v x hv hx=>?_⟩
    cases i with
    |zero=>simp at hv hx;subst hv;subst hx;exact AG he hy
    |succ i=>simp only[List.map_cons,List.getElem?_cons_succ]at hv hx;exact h2 i v x hv hx
   ·simp at h
  ·simp at h
theorem Yb {w:World} {g:G}: ∀{l:List AV} {ys:List T},allT l=some ys->l.length=ys.length/\
  ∀(i:Nat) (v:Value) y,ys[i]?=some y->(∀x,l[i]?=some x->Rel w g v x)->RelT w g.M v y
 |[],ys,h=>by simp[allT]at h;subst h;simp
 |x::r,ys,h=>by
  cases x<;>simp only[allT]at h<;>try(simp at h;done)
  rename_i z
  split at h
  ·rename_i zs hz
   simp at h;subst h
   obtain⟨h1,h2⟩:=Yb (w:=w) (g:=g) hz
   refine⟨by simp[h1],fun i v y hy hr=>?_⟩
   cases i with
   |zero=>simp at hy;subst hy;exact Aw (hr _ rfl)
   |succ i=>simp only[List.getElem?_cons_succ]at hy hr;exact h2 i v y hy hr
  ·simp at h
def Bt (w:World) (g:G) (vs:List Value) (xs:List AV):Prop:=vs.length=xs.length/\ ∀(i:Nat) v x,vs[i]?=some v->xs[i]?=some x->Rel w g v x
theorem Bt.allT {w:World} {g:G} {vs:List Value} {xs:List AV} {ys:List T} (h:Bt w g vs xs) (ha:Am.allT xs=some ys):
  vs.length=ys.length/\ ∀(i:Nat) v y,vs[i]?=some v->ys[i]?=some y->RelT w g.M v y:=by
 obtain⟨h1,h2⟩:=Yb (w:=w) (g:=g) ha
 exact⟨by rw[h.1,h1],fun i v y hv hy=>h2 i v y hy (fun x hx=>h.2 i v x hv hx)⟩
theorem Ke {n:Int} {k:Nat} (h:L8 n=some k):n=(k:Int):=by
 cases n<;>simp[L8]at h;subst h;rfl
theorem Im {α:Type}: ∀{n:Nat} {l ys:List α},ED n l=some ys->ys=l.take n/\ys.length=n
 |0,l,ys,h=>by simp[ED]at h;subst h;simp
 |n+1,[],ys,h=>by simp[ED]at h
 |n+1,x::r,ys,h=>by
  simp only[ED]at h
  split at h
  ·rename_i zs hz
   simp at h;subst h
   obtain⟨h1,h2⟩:=Im hz
   exact⟨by simp[h1],by simp[h2]⟩
  ·simp at h
theorem Uv (a:Addr) (n:Nat) (h:a.spot=none):a.add n=⟨a.block,a.off+n,none⟩:=by
 unfold Addr.add
 split
 ·rename_i h0;subst h0;cases a;simp at h;simp[h]
 ·rfl
theorem Ej {P:Program} {te:TE} (hte:CX P te) (w:World) {f:Field} {fi:TI} (hf:look te f.type=some fi) (h0:fi.size≠0) (b o:Nat):
  (fieldPlace ⟨b,o,none⟩ f).run P w=.ok ⟨b,o+f.offset,none⟩ w:=by
 simp[fieldPlace,BT (hte _ _ hf) w,h0,Uv]
theorem Vm {gs:Array Field} {fs:List (Nat×Nat)} (h:gs.toList.map (fun f=>(f.offset,f.type))=fs) {i off ft:Nat} (hi:fs[i]?=some (off,ft)):
  ∃f,gs[i]?=some f/\f.offset=off/\f.type=ft:=by
 subst h
 rw[List.getElem?_map]at hi
 cases hg:gs.toList[i]? with
 |none=>simp[hg]at hi
 |some f=>
  simp only[hg,Option.map_some,Option.some.injEq,Prod.mk.injEq]at hi
  exact⟨f,by rw[<-Array.getElem?_toList];exact hg,hi.1,hi.2⟩
theorem FO {w:World} {M:Nat->Nat->Prop} {v:Value} {cs:List T} (h:RelT w M v (.ptr cs)): ∃b off,v=.pointer (some ⟨b,off,none⟩)/\
  ∀i x,cs[i]?=some x-> ¬M b (off+i)/\CK x=true/\ ∃u,w.cell? ⟨b,off+i,none⟩=some u/\RelT w M u x:=by
 cases h with
 |ptr b off _ vs ho hc hr=>exact⟨b,off,rfl,fun i x hx=>⟨(hc i x hx).1,ho i x hx,_,(hc i x hx).2,hr i x hx⟩⟩
theorem YQ {w:World} {M:Nat->Nat->Prop} {b off:Nat} {cs:List T} (h: ∀i x,cs[i]?=some x-> ¬M b (off+i)/\CK x=true/\ ∃u,w.cell? ⟨b,off+i,none⟩=some u/\RelT w M u x):
  RelT w M (.pointer (some ⟨b,off,none⟩)) (.ptr cs):=by
 refine .ptr b off cs (fun i=>(w.cell? ⟨b,off+i,none⟩).getD undef) (fun i x hx=>(h i x hx).2.1) ?_ ?_
 ·intro i x hx;obtain⟨h1,_,u,h2,_⟩:=h i x hx;exact⟨h1,by simp[h2]⟩
 ·intro i x hx;obtain⟨_,_,u,h2,h3⟩:=h i x hx;simpa[h2]using h3
theorem Cq {w:World} {M:Nat->Nat->Prop} {v:Value} {m:SM} {sz:Nat} {es:List (List T)} (h:RelT w M v (.slice m sz es)):
  (v=.slice none 0 0/\es=[])\/(∃b off cap,v=.slice (some ⟨b,off,none⟩) es.length cap/\es.length<=cap/\(m=.full->cap=es.length)/\m≠ .nil/\(∀e∈es,e.length=sz)/\
   ∀i x,es.flatten[i]?=some x-> ¬M b (off+i)/\CK x=true/\ ∃u,w.cell? ⟨b,off+i,none⟩=some u/\RelT w M u x)\/ ∃a,v=.slice (some a) 0 0/\es=[]/\m≠ .nil:=by
 cases h with
 |sliceNil=>exact .inl ⟨rfl,rfl⟩
 |sliceZ a _ _ hm=>exact .inr (.inr ⟨a,rfl,rfl,hm⟩)
 |slice b off len cap _ _ _ vs hl hc hf hm hp hsz hone hcell hrel=>
  subst hl
  exact .inr (.inl ⟨b,off,cap,rfl,hc,hf,hm,hsz,fun i x hx=>⟨(hcell i x hx).1,hone i x hx,_,(hcell i x hx).2,hrel i x hx⟩⟩)
theorem DN {w:World} {M:Nat->Nat->Prop} {b off len cap:Nat} {m:SM} {sz:Nat} {es:List (List T)} (hl:es.length=len) (hc:len<=cap) (hf:m=.full->cap=len) (hm:m≠ .nil) (hsz: ∀e∈es,e.length=sz)
  (h: ∀i x,es.flatten[i]?=some x-> ¬M b (off+i)/\CK x=true/\ ∃u,w.cell? ⟨b,off+i,none⟩=some u/\RelT w M u x) (hp: ∀p N,m=.phys p N->b=p/\off=0/\cap*sz<=N:=by intro p N hp;cases hp):
  RelT w M (.slice (some ⟨b,off,none⟩) len cap) (.slice m sz es):=by
 refine .slice b off len cap m sz es (fun i=>(w.cell? ⟨b,off+i,none⟩).getD undef) hl hc hf hm hp hsz (fun i x hx=>(h i x hx).2.1) ?_ ?_
 ·intro i x hx;obtain⟨h1,_,u,h2,_⟩:=h i x hx;exact⟨h1,by simp[h2]⟩
 ·intro i x hx;obtain⟨_,_,u,h2,h3⟩:=h i x hx;simpa[h2]using h3
theorem C7 {α:Type} (sz:Nat): ∀(es:List (List α)),(∀e∈es,e.length=sz)-> ∀(l k i:Nat) x,((es.drop l).take k).flatten[i]?=some x->es.flatten[l*sz+i]?=some x
 |[],_,l,k,i,x,h=>by simp at h
 |e::es,hs,0,k,i,x,h=>by
  simp only[List.drop_zero]at h
  simp only[Nat.zero_mul,Nat.zero_add]
  have:(e::es)=(e::es).take k++(e::es).drop k:=(List.take_append_drop k _).symm
  rw[this,List.flatten_append,List.getElem?_append_left]
  ·exact h
  ·rcases Nat.lt_or_ge i ((e::es).take k).flatten.length with h'|h'
   ·exact h'
   ·rw[List.getElem?_eq_none h']at h;simp at h
 |e::es,hs,l+1,k,i,x,h=>by
  simp only[List.drop_succ_cons]at h
  have ih:=C7 sz es (fun e he=>hs e (by simp[he])) l k i x h
  have he:=hs e Ac
  rw[List.flatten_cons,List.getElem?_append_right (by rw[he,Nat.succ_mul];omega)]
  rw[show(l+1)*sz+i-e.length=l*sz+i by rw[he,Nat.succ_mul];omega]
  exact ih
theorem IG {P:Program} {w:World} {g:G} {a:Act} {env:Env} (he:AK w g a env) {o:Operand} {n y:Nat} {c:BoundsCode} (h:BA env (some o) 0=some n) (hy:n<=y):
  (Instr.sliceBound (a.eval o) y c).run P w=.ok n w:=by
 simp only[BA]at h
 split at h
 ·rename_i k m hm
  have hr:=C3 (AG he hm)
  have hn:=Ke h
  rw[hr,hn]
  simp[Instr.sliceBound,asIntOf,hy]
 ·simp at h
theorem DB {env:Env} {o:Operand} {d d':Nat}:BA env (some o) d=BA env (some o) d':=rfl
theorem DJ {P:Program} {w:World} {g:G} {a:Act} {env:Env} (he:AK w g a env) {s:Bool} {len cap:Nat} {lo hi:Option Operand} {l h:Nat}
  (hh:BA env hi len=some h) (hl:BA env lo 0=some l) (h1:h<=cap) (h2:l<=h):
  (Instr.sliceBounds s len cap (lo.map a.eval) (hi.map a.eval) none).run P w=.ok (l,h,cap) w:=by
 have e1: ∀z:Sem Nat,(match hi.map a.eval,(none:Option Value)with
  |some v,some _=>Instr.sliceBound v cap .slice3B
  |some v,none=>Instr.sliceBound v cap (if s then .sliceAcap else .sliceAlen)
  |none,none=>pure len
  |none,some _=>z:Sem Nat).run P w=.ok h w:=by
  intro z
  cases hi with
  |none=>simp[BA]at hh;subst hh;simp
  |some o=>simp only[Option.map_some];exact IG he (DB.symm.trans hh) h1
 have e2: ∀c,(match lo.map a.eval with
  |some v=>Instr.sliceBound v h c
  |none=>pure 0:Sem Nat).run P w=.ok l w:=by
  intro c
  cases lo with
  |none=>simp[BA]at hl;subst hl;simp
  |some o=>simp only[Option.map_some];exact IG he (DB.symm.trans hl) h2
 unfold Instr.sliceBounds
 simp only[Sem.run_bind,Sem.run_pure,Result.andThen_ok]
 cases hi<;>cases lo<;>simp_all
theorem HR {P:Program} {w:World} {g:G} {a:Act} {env:Env} (he:AK w g a env) {s:Bool} {len cap:Nat} {lo:Option Operand} {hi mx:Operand} {l h c:Nat}
  (hh:BA env (some hi) len=some h) (hl:BA env lo 0=some l) (hc:BA env (some mx) 0=some c) (h0:c<=cap) (h1:h<=c) (h2:l<=h):
  (Instr.sliceBounds s len cap (lo.map a.eval) (some (a.eval hi)) (some (a.eval mx))).run P w=.ok (l,h,c) w:=by
 have e0:=fun k=>IG (P:=P) (c:=k) he hc h0
 have e1:=fun k=>IG (P:=P) (c:=k) he (DB.symm.trans hh) h1
 have e2: ∀k,(match lo.map a.eval with
  |some v=>Instr.sliceBound v h k
  |none=>pure 0:Sem Nat).run P w=.ok l w:=by
  intro k
  cases lo with
  |none=>simp[BA]at hl;subst hl;simp
  |some o=>simp only[Option.map_some];exact IG he (DB.symm.trans hl) h2
 unfold Instr.sliceBounds
 simp only[Sem.run_bind,e0,e1,Result.andThen_ok]
 cases lo<;>simp_all
theorem BO (b o n:Nat):(⟨b,o,none⟩:Addr).add n=⟨b,o+n,none⟩:=Uv _ _ rfl
end Go.Am
namespace Go.Am
section
variable {P:Program} {te:TE} {w:World} {g:G}
theorem Ak2 {op:UnOp} {u:Value} {p r:AV} (h:unV op p=some r) (hp:Rel w g u p): ∃z,(Op.unary op u).run P w=.ok z w/\Rel w g z r:=by
 unfold unV at h
 split at h
 ·split at h<;>simp at h
  subst h;rw[EE hp]
  exact⟨_,by simp[Op.unary],.t _ _ (.bool _)⟩
 ·split at h<;>simp at h
  subst h;rw[C3 hp]
  exact⟨.int _ _,by simp[Op.unary,Op.intArith],.t _ _ (.int _ _)⟩
 ·simp at h
theorem Vz (hte:CX P te) {s d:Nat} (hs: ∃e,P.underlying s=some e) {u:Value} {p r:AV} (h:Sf te d p=some r) (hp:Rel w g u p):
  ∃z,(convert s d u).run P w=.ok z w/\Rel w g z r:=by
 obtain⟨e,hs⟩:=hs
 have hsr:(underlying s).run P w=.ok e w:=by simp[underlying,program,Sem.run,hs]
 unfold Sf at h
 split at h
 ·rename_i k hl
  split at h<;>simp at h
  subst h;rw[C3 hp]
  have hu:=Aak (hte _ _ hl) w rfl
  exact⟨.int _ _,by simp[convert,hsr,hu,Conv.intToInt],.t _ _ (.int _ _)⟩
 ·rename_i hl
  split at h<;>simp at h
  subst h;rw[Fm hp]
  have hu:=GZ (hte _ _ hl) w rfl
  refine⟨.string _,?_,.t _ _ (.str _)⟩
  simp[convert,hsr,hu]
 ·simp at h
theorem R7 (hte:CX P te) {t:Nat} {u:Value} {p r:AV} (h:Mc te t p=some r) (hp:Rel w g u p):
  ∃z,(Instr.makeInterface t u).run P w=.ok z w/\Rel w g z r:=by
 unfold Mc at h
 split at h
 ·rename_i ti hl
  obtain⟨d,hd,hk⟩:=run_underlying (hte _ _ hl) w
  have hrun:ti.kind≠ .iface->(Instr.makeInterface t u).run P w=.ok (.iface t u) w:=by
   intro hne
   simp only[Instr.makeInterface,Sem.run_bind,hd,Result.andThen_ok]
   cases d<;>simp_all[Dj]
  split at h
  ·simp at h
  ·rename_i hne
   have hne':ti.kind≠ .iface:=by intro e;exact hne e
   refine⟨_,hrun hne',?_⟩
   split at h
   ·simp at h;subst h
    exact .t _ _ (.iface _ _ _ (Aw hp))
   ·rename_i cs
    split at h
    ·rename_i ys hy
     simp at h;subst h
     cases hp with
     |agg vs _ hl hr=>
      obtain⟨h1,h2⟩:=Bt.allT (vs:=vs) ⟨hl,hr⟩ hy
      exact .t _ _ (.iface _ _ _ (.agg vs ys h1 h2))
    ·simp at h;subst h;exact .iface _ _ _ hp
   ·simp at h;subst h;exact .iface _ _ _ hp
 ·simp at h
theorem LA {fn:Fn} {f c:List AV} {fs cs:List Value} (hf:Bt w g fs f) (hc:Bt w g cs c):Rel w g (.func fn fs.toArray cs.toArray) (Lh fn f c):=by
 unfold Lh
 split
 ·rename_i ys hy
  split
  ·rename_i zs hz
   obtain⟨a1,a2⟩:=hf.allT hy
   obtain⟨b1,b2⟩:=hc.allT hz
   exact .t _ _ (.func fn fs cs ys zs a1 b1 a2 b2)
  ·exact .func fn fs cs f c hf.1 hc.1 hf.2 hc.2
 ·exact .func fn fs cs f c hf.1 hc.1 hf.2 hc.2
theorem K4 (hte:CX P te) {t i:Nat} {u:Value} {p r:AV} (h:Hu te t i p=some r) (hp:Rel w g u p):
  ∃z,(Instr.fieldAt t u i).run P w=.ok z w/\Rel w g z r:=by
 unfold Hu Ain at h
 split at h
 ·rename_i off ft hf
  split at hf
  ·rename_i i1 i2 i3 fs hl
   obtain⟨gs,hd,hg⟩:=IR (hte _ _ hl) w rfl
   obtain⟨f,hf1,hf2,hf3⟩:=Vm hg hf
   split at h
   ·rename_i fi hfi
    split at h
    ·simp at h
    ·rename_i n hn
     have hn0:fi.size≠0:=by omega
     rw[<-hf3]at hfi
     split at h
     ·rename_i b o
      simp at h;subst h
      cases hp with
      |ref _ _ blk hb=>
       refine⟨.pointer (some ⟨blk,o+f.offset,none⟩),by simp[Instr.fieldAt,hd,hf1,Instr.sureAddr,Ej hte w hfi hn0],?_⟩
       rw[hf2];exact .ref _ _ _ hb
     ·rename_i b sz k o
      simp at h;subst h
      cases hp with
      |eref _ _ _ _ blk hb=>
       refine⟨.pointer (some ⟨blk,k*sz+o+f.offset,none⟩),by simp[Instr.fieldAt,hd,hf1,Instr.sureAddr,Ej hte w hfi hn0],?_⟩
       rw[hf2,Nat.add_assoc];exact .eref _ _ _ _ _ hb
     ·rename_i cs
      simp at h;subst h
      obtain⟨b,o,rfl,hc⟩:=FO (Aw hp)
      refine⟨.pointer (some ⟨b,o+f.offset,none⟩),by simp[Instr.fieldAt,hd,hf1,Instr.sureAddr,Ej hte w hfi hn0],?_⟩
      refine .t _ _ (YQ fun j x hx=>?_)
      rw[List.getElem?_drop]at hx
      have:=hc _ _ hx
      rw[hf2,Nat.add_assoc];exact this
     ·simp at h
   ·simp at h
  ·simp at hf
 ·simp at h
theorem Iu (hte:CX P te) {t off:Nat} {vs:List Value} {cs:List AV} {r:AV} (h:OR te t off cs=some r) (hr:Bt w g vs cs):
  ∃z,(part t vs.toArray off).run P w=.ok z w/\Rel w g z r:=by
 unfold OR at h
 split at h
 ·rename_i ti hl
  have hag:=Ta (hte _ _ hl) w
  have hsz:=BT (hte _ _ hl) w
  split at h
  ·rename_i ha
   split at h
   ·rename_i ys hy
    simp at h;subst h
    obtain⟨e1,e2⟩:=Im hy
    refine⟨.agg ((vs.drop off).take ti.size).toArray,?_,?_⟩
    ·simp[part,hag,ha,hsz,List.extract_toArray,List.extract_eq_take_drop]
    ·refine .agg _ _ ?_ ?_
     ·subst e1
      have:=hr.1
      simp only[List.length_take,List.length_drop]at e2⊢
      omega
     ·intro i v x hv hx
      subst e1
      rw[List.getElem?_take]at hv hx
      split at hv
      ·rename_i hi
       rw[if_pos hi]at hx
       rw[List.getElem?_drop]at hv hx
       exact hr.2 _ v x hv hx
      ·simp at hv
   ·simp at h
  ·rename_i ha
   have hlt:off<cs.length:=by
    rcases Nat.lt_or_ge off cs.length with h'|h'
    ·exact h'
    ·rw[List.getElem?_eq_none h']at h;simp at h
   have hv: ∃v,vs[off]?=some v:=⟨vs[off]'(by rw[hr.1];exact hlt),List.getElem?_eq_getElem _⟩
   obtain⟨v,hv⟩:=hv
   refine⟨v,?_,hr.2 _ _ _ hv h⟩
   simp[part,hag,ha,hv]
 ·simp at h
def Ge (d:Nat) (xs ys:Array Value):List Field->Sem Bool
 |[]=>pure false
 |f::fs=>
  if f.name≠ "_" then do
   let a<-part f.type xs f.offset
   let b<-part f.type ys f.offset
   let r<-Op.eqGuardIn d f.type a b
   if r=true then pure true else Ge d xs ys fs
  else Ge d xs ys fs
theorem LP (w:World) (d t:Nat) (xs ys:Array Value) {gs:Array Field} (ht:P.underlying t=some (.struct gs)):
  (Op.eqGuardIn (d+1) t (.agg xs) (.agg ys)).run P w=(Ge d xs ys gs.toList).run P w:=by
 simp only[Op.eqGuardIn,Sem.run_bind,Go.run_underlying ht,Result.andThen_ok]
 rw[<-Array.forIn_toList]
 generalize gs.toList=fs
 clear ht
 induction fs generalizing w with
 |nil=>simp[Ge]
 |cons f fs ih=>
  simp only[List.forIn_cons,Ge,Sem.run_bind,Sem.run_ite]
  split
  ·generalize(part f.type xs f.offset).run P w=r1
   cases r1 with
   |ok a w1=>
    simp only[Result.andThen_ok]
    generalize(part f.type ys f.offset).run P w1=r2
    cases r2 with
    |ok b w2=>
     simp only[Result.andThen_ok]
     generalize(Op.eqGuardIn d f.type a b).run P w2=r3
     cases r3 with
     |ok r w3=>
      cases r
      ·simp only[Result.andThen_ok,Bool.false_eq_true,if_false,Sem.run_pure]
       exact ih w3
      ·simp only[Result.andThen_ok,if_true,Sem.run_pure]
     |halt x w3=>simp[Result.andThen]
    |halt x w2=>simp[Result.andThen]
   |halt x w1=>simp[Result.andThen]
  ·simp only[Sem.run_pure,Result.andThen_ok]
   exact ih w
theorem Abp (hte:CX P te) {f:Nat->AV->AV->Option Bool} {D:Nat}
  (hf: ∀t p q b u v,f t p q=some b->Rel w g u p->Rel w g v q->(Op.equalIn D t u v).run P w=.ok b w/\(Op.eqGuardIn D t u v).run P w=.ok false w)
  {vs us:List Value} {xs ys:List AV} (hx:Bt w g vs xs) (hy:Bt w g us ys): ∀(l:List Field) (b:Bool),(∀x∈l,(x.name != "_")=true)->
  eqF f te xs ys (l.map fun f=>(f.offset,f.type))=some b->
  (Op.eqFields D vs.toArray us.toArray l).run P w=.ok b w/\(Ge D vs.toArray us.toArray l).run P w=.ok false w
 |[],b,_,h=>by simp[eqF]at h;subst h;simp[Op.eqFields,Ge]
 |x::r,b,hn,h=>by
  simp only[List.map_cons,eqF]at h
  split at h
  ·rename_i p hp
   split at h
   ·rename_i q hq
    split at h
    ·rename_i b1 hb1
     split at h
     ·rename_i b2 hb2
      simp at h;subst h
      obtain⟨z,z1,z2⟩:=Iu hte hp hx
      obtain⟨z',z3,z4⟩:=Iu hte hq hy
      obtain⟨k1,k2⟩:=hf _ _ _ _ _ _ hb1 z2 z4
      obtain⟨j1,j2⟩:=Abp hte hf hx hy r b2 (fun y hy=>hn y (by simp[hy])) hb2
      have hne:x.name≠ "_" :=by have:=hn x Ac;simpa using this
      constructor
      ·simp only[Op.eqFields,Sem.run_ite,if_pos hne,Sem.run_bind,z1,z3,k1,Result.andThen_ok]
       cases b1<;>simp[j1]
      ·simp only[Ge,Sem.run_ite,if_pos hne,Sem.run_bind,z1,z3,k2,Result.andThen_ok]
       simp[j2]
     ·simp at h
    ·simp at h
   ·simp at h
  ·simp at h
theorem Vt (hte:CX P te): ∀(d D t:Nat) (p q:AV) (b:Bool) (u v:Value),eqA te d t p q=some b->Rel w g u p->Rel w g v q->d<=D->
  (Op.equalIn D t u v).run P w=.ok b w/\(Op.eqGuardIn D t u v).run P w=.ok false w
 |0,_,_,_,_,_,_,_,h,_,_,_=>by simp[eqA]at h
 |d+1,0,_,_,_,_,_,_,_,_,_,hD=>by omega
 |d+1,D+1,t,p,q,b,u,v,h,hp,hq,hD=>by
  simp only[eqA]at h
  split at h
  ·rename_i i1 i2 i3 k0 hl
   have hu:=Aak (hte _ _ hl) w rfl
   split at h
   ·rename_i k a k' b'
    split at h
    ·rename_i hk
     subst hk;simp at h;subst h
     rw[C3 hp,C3 hq]
     simp[Op.equalIn,Op.eqGuardIn,hu]
    ·simp at h
   ·simp at h
  ·rename_i i1 i2 i3 hl
   have hu:=VP (hte _ _ hl) w rfl
   split at h
   ·simp at h;subst h
    rw[EE hp,EE hq]
    simp[Op.equalIn,Op.eqGuardIn,hu]
   ·simp at h
  ·rename_i i1 i2 i3 hl
   have hu:=GZ (hte _ _ hl) w rfl
   split at h
   ·simp at h;subst h
    rw[Fm hp,Fm hq]
    simp[Op.equalIn,Op.eqGuardIn,hu,beq_toListBytes,ByteArray.toList_eq]
   ·simp at h
  ·rename_i i1 i2 i3 fs hl
   split at h
   ·rename_i xs ys
    obtain⟨ds,hd,hdk⟩:=(hte _ _ hl).und'
    obtain⟨gs,hgs⟩: ∃gs,ds=.struct gs:=by cases ds<;>simp[Dj]at hdk;exact⟨_,rfl⟩
    subst hgs
    simp[Dj]at hdk
    have he:=(hte _ _ hl).eqs rfl
    simp only[Arf,hd,Bool.and_eq_true,List.all_eq_true]at he
    have hs:P.stoodInHeld t=false:=by simpa using he.1
    have hfo:P.fieldsOf t=gs:=by simp[Program.fieldsOf,hd]
    cases hp with
    |agg vs _ h1 r1=>
    cases hq with
    |agg us _ h2 r2=>
    rw[<-hdk]at h
    obtain⟨j1,j2⟩:=Abp (P:=P) hte (fun t p q b u v h hp hq=>Vt hte d D t p q b u v h hp hq Aa) (⟨h1,r1⟩:Bt w g vs xs) (⟨h2,r2⟩:Bt w g us ys) gs.toList b (fun x hx=>he.2 x hx) h
    rw[run_equalIn_struct w D t _ _ (by rw[hfo];exact hd) hs,hfo,LP w D t _ _ hd]
    exact⟨j1,j2⟩
   ·simp at h
  ·simp at h
theorem Aey (hte:CX P te) {op:BinOp} {t:Nat} {x y:Operand} {u v:Value} {p q r:AV}
  (h:XS te op t (Ey x||Ey y) p q=some r) (hp:Rel w g u p) (hq:Rel w g v q):
  ∃z,(do eqGuard op t x y u v;binOp op t u v:Sem Value).run P w=.ok z w/\Rel w g z r:=by
 unfold XS at h
 split at h
 ·rename_i xs
  split at h
  ·rename_i ys
   split at h
   ·rename_i b hb
    split at h
    ·rename_i z hz
     simp at h;subst h
     obtain⟨k1,k2⟩:=Vt (P:=P) hte 8 (9999+1) t _ _ b u v hb hp hq Aa
     obtain⟨us,hus⟩: ∃us,u=.agg us:=by cases hp;exact⟨_,rfl⟩
     obtain⟨ws,hws⟩: ∃ws,v=.agg ws:=by cases hq;exact⟨_,rfl⟩
     subst hus;subst hws
     have hgd: ∀op,(eqGuard op t x y (.agg us) (.agg ws)).run P w=.ok () w:=by
      intro op
      have k3:(Op.eqGuardIn 10000 t (.agg us) (.agg ws)).run P w=.ok false w:=k2
      cases op<;>simp[eqGuard,Op.maxDepth,k3]
     rcases Ek (w:=w) (M:=g.M) hz with⟨rfl,hr⟩|⟨rfl,hr⟩
     ·exact⟨_,by simp only[Sem.run_bind,hgd,Result.andThen_ok];exact Fy k1 rfl,.t _ _ hr⟩
     ·exact⟨_,by simp only[Sem.run_bind,hgd,Result.andThen_ok];exact H8 k1 rfl,.t _ _ hr⟩
    ·simp at h
   ·simp at h
  ·simp at h
 ·exact Aju hte h hp hq
theorem RG (hte:CX P te) {t:Nat} {u v:Value} {p q r:AV} (h:DE te t p q=some r) (hp:Rel w g u p) (hq:Rel w g v q):
  ∃z,(Instr.indexAt t u v).run P w=.ok z w/\Rel w g z r:=by
 unfold DE at h
 split at h
 ·rename_i k0 n
  rw[C3 hq]
  split at h
  ·rename_i k hk
   have hn:=Ke hk
   subst hn
   split at h
   ·rename_i i1 i2 i3 e hl
    have hu:=F7 (hte _ _ hl) w rfl
    split at h
    ·rename_i ei he
     have hsz:=BT (hte _ _ he) w
     split at h
     ·rename_i m sz es
      split at h
      ·rename_i hszeq
       split at h
       ·rename_i c hc
        simp at h;subst h
        have hklt:k<es.length:=by
         rcases Nat.lt_or_ge k es.length with h'|h'
         ·exact h'
         ·rw[List.getElem?_eq_none h']at hc;simp at hc
        rcases Cq (Aw hp)with⟨_,hnil⟩|⟨b,off,cap,rfl,hle,_,_,hs,hcell⟩|⟨_,_,hnil,_⟩
        ·subst hnil;simp at hc
        rotate_left
        ·subst hnil;simp at hc
        ·refine⟨.pointer (some ⟨b,off+k*ei.size,none⟩),?_,?_⟩
         ·simp[Instr.indexAt,asIntOf,hu,hsz,hklt,BO]
         ·refine .t _ _ (YQ fun j x hx=>?_)
          have hfl:=N0 sz es hs k c hc j x hx
          have:=hcell _ _ hfl
          rw[<-hszeq,Nat.add_assoc];exact this
       ·simp at h
      ·simp at h
     ·rename_i b sz lo len
      split at h
      ·rename_i hszeq
       split at h
       ·rename_i hklt
        simp at h;subst h
        cases hp with
        |rowNil=>omega
        |row _ _ _ _ blk o cap e' n hb hs' ho hle hn'=>
         have ho':o=lo*sz:=by rcases ho with h'|h'<;>omega
         refine⟨.pointer (some ⟨blk,o+k*ei.size,none⟩),?_,?_⟩
         ·simp[Instr.indexAt,asIntOf,hu,hsz,hklt,BO]
         ·rw[ho',<-hszeq,<-Nat.add_mul];exact .eref b sz (lo+k) 0 blk hb
       ·simp at h
      ·simp at h
     ·simp at h
    ·simp at h
   ·rename_i i1 i2 i3 len e hl
    have hu:=F8 (hte _ _ hl) w rfl
    split at h
    ·rename_i ei he
     have hsz:=BT (hte _ _ he) w
     split at h
     ·rename_i b off
      split at h
      ·rename_i hklt
       simp at h;subst h
       cases hp with
       |ref _ _ blk hb=>
        refine⟨.pointer (some ⟨blk,off+k*ei.size,none⟩),?_,.ref _ _ _ hb⟩
        simp[Instr.indexAt,asIntOf,hu,hsz,hklt,BO,Instr.sureAddr]
      ·simp at h
     ·simp at h
    ·simp at h
   ·simp at h
  ·simp at h
 ·simp at h
theorem Zo (hte:CX P te) {t:Nat} {u v:Value} {p q r:AV} (h:Zp te t p q=some r) (hp:Rel w g u p) (hq:Rel w g v q):
  ∃z,(Instr.index t u v).run P w=.ok z w/\Rel w g z r:=by
 unfold Zp at h
 split at h
 ·rename_i k0 n
  rw[C3 hq]
  split at h
  ·rename_i k hk
   have hn:=Ke hk
   subst hn
   split at h
   ·rename_i i1 i2 i3 hl
    have hu:=GZ (hte _ _ hl) w rfl
    split at h
    ·rename_i s
     split at h
     ·rename_i c hc
      simp at h;subst h
      rw[Fm hp]
      refine⟨.int .u8 c.toNat,?_,.t _ _ (.int _ _)⟩
      have hget:(⟨s.toArray⟩:ByteArray)[k]?=some c:=by
       have hlt:k<s.length:=by
        rcases Nat.lt_or_ge k s.length with h'|h'
        ·exact h'
        ·rw[List.getElem?_eq_none h']at hc;simp at hc
       rw[getElem?_pos _ _ (by simpa[ByteArray.size]using hlt)]
       rw[List.getElem?_eq_getElem hlt]at hc
       simp at hc
       simp[ByteArray.getElem_eq_getElem_data,hc]
      simp[Instr.index,asIntOf,hu,hget]
     ·simp at h
    ·simp at h
   ·rename_i i1 i2 i3 n e hl
    have hu:=F8 (hte _ _ hl) w rfl
    split at h
    ·rename_i cs
     split at h
     ·rename_i hlt
      have hkn:k<n:=by simpa[Nat.blt_eq]using hlt
      split at h
      ·rename_i ei he
       have hsz:=BT (hte _ _ he) w
       cases hp with
       |agg vs _ h1 r1=>
        obtain⟨z,z1,z2⟩:=Iu (P:=P) hte h ⟨h1,r1⟩
        refine⟨z,?_,z2⟩
        simp[Instr.index,asIntOf,hu,hsz,hkn,z1]
      ·simp at h
     ·simp at h
    ·simp at h
   ·simp at h
  ·simp at h
 ·simp at h
theorem Ah2 (hte:CX P te) {t:Nat} {ts:Array TypeId} {ty:Nat} (ht:ts[0]?=some t) {u:Value} {p r:AV} (h:Asq te t p=some r) (hp:Rel w g u p):
  ∃z,(Builtin.len_ ts ty #[u]).run P w=.ok z w/\Rel w g z r:=by
 unfold Asq at h
 split at h
 ·rename_i i1 i2 i3 hl
  have hu:=GZ (hte _ _ hl) w rfl
  split at h
  ·simp at h;subst h;rw[Fm hp]
   rename_i s
   refine⟨.int .i64 ((⟨s.toArray⟩:ByteArray).size:Int),by simp only[Builtin.len_,ht];simp[hu,goInt],?_⟩
   have e:(⟨s.toArray⟩:ByteArray).size=s.length:=by simp[ByteArray.size]
   rw[e];exact .t _ _ (.int _ _)
  ·simp at h
 ·rename_i i1 i2 i3 e hl
  have hu:=F7 (hte _ _ hl) w rfl
  split at h
  ·simp at h;subst h
   rcases Cq (Aw hp)with⟨rfl,rfl⟩|⟨b,off,cap,rfl,_⟩|⟨a,rfl,rfl,_⟩
   ·exact⟨_,by simp[Builtin.len_,ht,hu,goInt],.t _ _ (.int _ _)⟩
   ·exact⟨_,by simp[Builtin.len_,ht,hu,goInt],.t _ _ (.int _ _)⟩
   ·exact⟨_,by simp[Builtin.len_,ht,hu,goInt],.t _ _ (.int _ _)⟩
  ·simp at h;subst h
   cases hp with
   |rowNil=>exact⟨_,by simp[Builtin.len_,ht,hu,goInt],.t _ _ (.int _ _)⟩
   |row=>exact⟨_,by simp[Builtin.len_,ht,hu,goInt],.t _ _ (.int _ _)⟩
  ·simp at h
 ·simp at h
theorem S6 {ρ:Operand->Value} {o:Oper} {x:Operand} (ho:o.op=.nilCheck x) {p r:AV} (h:Oi p=some r) (hp:Rel w g (ρ x) p):
  (execOp ρ o).run P w=.ok (.value (ρ x)) w/\Rel w g (ρ x) r:=by
 have key: ∀u,(∀(n:String) f c,u≠ .func (.method n) f c)->u≠ .pointer none->u≠ .nilIface->u≠ .nilFunc->ρ x=u->(execOp ρ o).run P w=.ok (.value (ρ x)) w:=by
  intro u h1 h2 h3 h4 hu
  unfold execOp
  rw[ho]
  simp only[hu]
  simp
 unfold Oi at h
 split at h<;>simp at h<;>subst h
 ·generalize hv:ρ x=v at hp
  cases hp with
  |ref b off blk hb=>exact⟨by have:=key _ Ac Ac Ac Ac hv;rwa[hv]at this,.ref _ _ _ hb⟩
 ·generalize hv:ρ x=v at hp
  cases hp with
  |eref b sz k off blk hb=>exact⟨by have:=key _ Ac Ac Ac Ac hv;rwa[hv]at this,.eref _ _ _ _ _ hb⟩
 ·obtain⟨b,off,hv,_⟩:=FO (Aw hp)
  exact⟨key _ Ac Ac Ac Ac hv,hp⟩
 ·have:=Aw hp
  generalize hv:ρ x=v at this
  cases this with
  |iface t v x h=>exact⟨by have:=key _ Ac Ac Ac Ac hv;rwa[hv]at this,hv▸hp⟩
 ·generalize hv:ρ x=v at hp
  cases hp with
  |iface t v x h=>exact⟨by have:=key _ Ac Ac Ac Ac hv;rwa[hv]at this,.iface _ _ _ h⟩
 ·have:=Aw hp
  generalize hv:ρ x=v at this
  cases this with
  |func=>exact⟨by have:=key _ Ac Ac Ac Ac hv;rwa[hv]at this,hv▸hp⟩
 ·generalize hv:ρ x=v at hp
  cases hp with
  |func fn v1 v2 x1 x2 h1 h2 r1 r2=>
   exact⟨by have:=key _ Ac Ac Ac Ac hv;rwa[hv]at this,.func _ _ _ _ _ h1 h2 r1 r2⟩
end
end Go.Am
namespace Go.Am
section
variable {P:Program} {te:TE} {w:World} {g:G}
theorem Y1 (hte:CX P te) {a:Act} {env:Env} (he:AK w g a env) {t:Nat} {lo hi mx:Option Operand} {u:Value} {p r:AV}
  (h:JR te t p env lo hi mx=some r) (hp:Rel w g u p): ∃z,(Instr.sliceAt t u (lo.map a.eval) (hi.map a.eval) (mx.map a.eval)).run P w=.ok z w/\Rel w g z r:=by
 unfold JR at h
 split at h
 ·rename_i i1 i2 i3 hl
  have hu:=GZ (hte _ _ hl) w rfl
  split at h
  ·rename_i s
   split at h
   ·rename_i hh hhi
    split at h
    ·rename_i ll hlo
     split at h
     ·rename_i h1
      split at h
      ·rename_i h2
       simp at h;subst h
       rw[Fm hp]
       have hb:=DJ (P:=P) he (s:=false) (cap:=s.length) hhi hlo h1 h2
       refine⟨.string ((⟨s.toArray⟩:ByteArray).extract ll hh),?_,?_⟩
       ·have e:(⟨s.toArray⟩:ByteArray).size=s.length:=by simp[ByteArray.size]
        simp[Instr.sliceAt,Instr.slice,hu,e,hb]
       ·have e:(⟨s.toArray⟩:ByteArray).extract ll hh=⟨((s.drop ll).take (hh-ll)).toArray⟩:=by
         apply ByteArray.ext
         simp[List.extract_toArray,List.extract_eq_take_drop]
        rw[e];exact .t _ _ (.str _)
      ·simp at h
     ·simp at h
    ·simp at h
   ·simp at h
  ·simp at h
 ·rename_i i1 i2 i3 e hl
  have hu:=F7 (hte _ _ hl) w rfl
  split at h
  ·rename_i ei hei
   have hsz:=BT (hte _ _ hei) w
   split at h
   ·rename_i m sz es
    split at h
    ·rename_i hh hhi
     split at h
     ·rename_i ll hlo
      split at h
      ·rename_i hse
       split at h
       ·rename_i h1
        split at h
        ·rename_i h2
         have hlen:((es.drop ll).take (hh-ll)).length=hh-ll:=by simp;omega
         rcases Cq (Aw hp)with⟨rfl,rfl⟩|⟨b,off,cap,rfl,hle,hful,hnn,hsz',hcell⟩|⟨az,rfl,rfl,hnn⟩
         rotate_left 2
         ·have h10:hh=0:=by simpa using h1
          have h20:ll=0:=by omega
          subst h10;subst h20
          split at h
          ·simp at h;subst h
           have hb:=DJ (P:=P) he (s:=true) (cap:=0) hhi hlo (Nat.le_refl _) (Nat.le_refl _)
           simp only[List.length_nil]at hb
           exact⟨.slice (some az) 0 0,by simp[Instr.sliceAt,Instr.slice,hu,hb,hsz],.t _ _ (.sliceZ az _ _ (by
            cases m with
            |any=>simp[EN]
            |full=>simp[EN]
            |phys _ _=>simp[EN]
            |nil=>exact absurd rfl hnn))⟩
          ·rename_i mo
           split at h
           ·rename_i ho
            split at h
            ·rename_i c hc
             split at h
             ·rename_i hch
              simp at h;subst h
              have hb:=HR (P:=P) he (s:=true) (cap:=0) hhi hlo (DB.trans hc) Aa Aa (Nat.le_refl _)
              rw[hch]at hb
              simp only[List.length_nil]at hb
              exact⟨.slice (some az) 0 0,by simp[Instr.sliceAt,Instr.slice,hu,hb,hsz],.t _ _ (.sliceZ az _ _ (by
               cases m with
               |any=>simp[Gv]
               |full=>simp[Gv]
               |phys _ _=>simp[Gv]
               |nil=>exact absurd rfl hnn))⟩
             ·simp at h
            ·simp at h
           ·simp at h
         ·have h10:hh=0:=by simpa using h1
          have h20:ll=0:=by omega
          subst h10;subst h20
          split at h
          ·simp at h;subst h
           have hb:=DJ (P:=P) he (s:=true) (cap:=0) hhi hlo (Nat.le_refl _) (Nat.le_refl _)
           simp only[List.length_nil]at hb
           exact⟨.slice none 0 0,by simp[Instr.sliceAt,Instr.slice,hu,hb,hsz],.t _ _ (.sliceNil _ _)⟩
          ·rename_i mo
           split at h
           ·rename_i ho
            split at h
            ·rename_i c hc
             split at h
             ·rename_i hch
              simp at h;subst h
              have hb:=HR (P:=P) he (s:=true) (cap:=0) hhi hlo (DB.trans hc) Aa Aa (Nat.le_refl _)
              rw[hch]at hb
              simp only[List.length_nil]at hb
              exact⟨.slice none 0 0,by simp[Instr.sliceAt,Instr.slice,hu,hb,hsz],.t _ _ (.sliceNil _ _)⟩
             ·simp at h
            ·simp at h
           ·simp at h
         ·have hes: ∀e∈(es.drop ll).take (hh-ll),e.length=sz:=fun e he=>hsz' e (List.mem_of_mem_drop (List.mem_of_mem_take he))
          have hfl: ∀(i:Nat) x,((es.drop ll).take (hh-ll)).flatten[i]?=some x-> ¬g.M b (off+ll*sz+i)/\CK x=true/\ ∃u,w.cell? ⟨b,off+ll*sz+i,none⟩=some u/\RelT w g.M u x:=by
           intro i x hx
           have:=hcell _ _ (C7 sz es hsz' ll (hh-ll) i x hx)
           rw[Nat.add_assoc];exact this
          have key: ∀(c:Nat) (m':SM),hh<=c->(m'=.full->c=hh)->m'≠ .nil->(∀p N,m'≠ .phys p N)->
            Rel w g (.slice (if c=ll then some ⟨b,off,none⟩else(some ⟨b,off,none⟩:Option Addr).map (·.add (ll*ei.size))) (hh-ll) (c-ll)) (.t (.slice m' sz ((es.drop ll).take (hh-ll)))):=by
           intro c m' hc hf hm hpp
           split
           ·rename_i hcl
            have h0:hh-ll=0:=by omega
            have hnil:(es.drop ll).take (hh-ll)=[]:=by rw[h0];simp
            refine .t _ _ (DN hlen Aa (fun h'=>by have:=hf h';omega) hm hes ?_ (fun p N hp=>absurd hp (hpp p N)))
            intro i x hx
            rw[hnil]at hx;simp at hx
           ·rw[Option.map_some,BO,<-hse]
            exact .t _ _ (DN hlen Aa (fun h'=>by have:=hf h';omega) hm hes hfl (fun p N hp=>absurd hp (hpp p N)))
          split at h
          ·simp at h;subst h
           have hb:=DJ (P:=P) he (s:=true) (cap:=cap) hhi hlo Aa h2
           refine⟨.slice (if cap=ll then some ⟨b,off,none⟩else(some ⟨b,off,none⟩:Option Addr).map (·.add (ll*ei.size))) (hh-ll) (cap-ll),by simp[Instr.sliceAt,Instr.slice,hu,hb,hsz],?_⟩
           have:=key cap (EN m (decide (hh=es.length))) Aa (by
             intro hm
             cases m with
             |any=>simp[EN]at hm
             |phys _ _=>simp[EN]at hm
             |full=>
              by_cases e:hh=es.length
              ·rw[hful rfl,e]
              ·simp[EN,e]at hm
             |nil=>exact absurd rfl hnn) (by
             cases m with
             |any=>simp[EN]
             |phys _ _=>simp[EN]
             |full=>by_cases e:hh=es.length<;>simp[EN,e]
             |nil=>exact absurd rfl hnn) (fun p N=>Adt m _ p N)
           simpa using this
          ·rename_i mo
           split at h
           ·rename_i ho
            split at h
            ·rename_i c hc
             split at h
             ·rename_i hch
              simp at h;subst h
              have hb:=HR (P:=P) he (s:=true) (cap:=cap) hhi hlo (DB.trans hc) Aa Aa h2
              refine⟨.slice (if c=ll then some ⟨b,off,none⟩else(some ⟨b,off,none⟩:Option Addr).map (·.add (ll*ei.size))) (hh-ll) (c-ll),by simp[Instr.sliceAt,Instr.slice,hu,hb,hsz],?_⟩
              have:=key c (Gv m) Aa (fun _=>hch) (by
               cases m with
               |any=>simp[Gv]
               |full=>simp[Gv]
               |phys _ _=>simp[Gv]
               |nil=>exact absurd rfl hnn) (fun p N=>Ads m p N)
              simpa using this
             ·simp at h
            ·simp at h
           ·simp at h
        ·simp at h
       ·simp at h
      ·split at h
       ·split at h
        ·have hv:u=.slice none 0 0:=by
          rcases Cq (Aw hp)with⟨h1,_⟩|⟨_,_,_,_,_,_,h1,_⟩|⟨_,_,_,h1⟩
          ·exact h1
          ·exact absurd rfl h1
          ·exact absurd rfl h1
         subst hv
         split at h
         ·simp at h;subst h
          have hb:=DJ (P:=P) he (s:=true) (cap:=0) hhi hlo (Nat.le_refl _) (Nat.le_refl _)
          simp only[List.length_nil]at hb
          exact⟨.slice none 0 0,by simp[Instr.sliceAt,Instr.slice,hu,hb,hsz],.t _ _ (.sliceNil _ _)⟩
         ·split at h
          ·rename_i mo _ _ ho hc
           simp at h;subst h
           have hb:=HR (P:=P) he (s:=true) (cap:=0) hhi hlo (DB.trans hc) (Nat.le_refl _) (Nat.le_refl _) (Nat.le_refl _)
           simp only[List.length_nil]at hb
           exact⟨.slice none 0 0,by simp[Instr.sliceAt,Instr.slice,hu,hb,hsz],.t _ _ (.sliceNil _ _)⟩
          ·simp at h
        ·simp at h
       ·simp at h
     ·simp at h
    ·simp at h
   ·rename_i b sz rl len
    split at h
    ·rename_i hh hhi
     split at h
     ·rename_i ll hlo
      split at h
      ·rename_i hse
       split at h
       ·rename_i h1
        split at h
        ·rename_i h2
         split at h
         ·simp at h;subst h
          cases hp with
          |rowNil _ _ a0 ha0 hb0=>
           have h10:hh=0:=by omega
           have h20:ll=0:=by omega
           subst h10;subst h20
           have hb:=DJ (P:=P) he (s:=true) (cap:=0) hhi hlo (Nat.le_refl _) (Nat.le_refl _)
           exact⟨.slice a0 0 0,by simp[Instr.sliceAt,Instr.slice,hu,hb,hsz],.rowNil _ _ _ ha0 hb0⟩
          |row _ _ _ _ blk o cap e' n hb0 hs' ho hle hn'=>
           have hb:=DJ (P:=P) he (s:=true) (cap:=cap) hhi hlo Aa h2
           refine⟨.slice (if cap=ll then some ⟨blk,o,none⟩else(some ⟨blk,o,none⟩:Option Addr).map (·.add (ll*ei.size))) (hh-ll) (cap-ll),by simp[Instr.sliceAt,Instr.slice,hu,hb,hsz],?_⟩
           have hn2:(rl+ll+(cap-ll))*sz<=n:=by
            rw[show rl+ll+(cap-ll)=rl+cap by omega];exact hn'
           split
           ·exact .row _ _ _ _ blk o _ e' n hb0 hs' (.inr Aa) Aa hn2
           ·rename_i hne
            rw[Option.map_some,BO,<-hse]
            have ho':o=rl*sz:=by rcases ho with h'|h'<;>omega
            exact .row _ _ _ _ blk _ _ e' n hb0 hs' (.inl (by rw[ho',Nat.add_mul])) Aa hn2
         ·simp at h
        ·simp at h
       ·simp at h
      ·simp at h
     ·simp at h
    ·simp at h
   ·simp at h
  ·simp at h
 ·simp at h
theorem QY (hte:CX P te) {a:Act} {env:Env} (he:AK w g a env) {o:Oper} {x:AV} (h:Ce te o.op env=some x):
  ∃v,(execOp a.eval o).run P w=.ok (.value v) w/\Rel w g v x:=by
 unfold Ce at h
 split at h
 case h_1 y ho=>exact⟨_,by simp[execOp,ho],AG he h⟩
 case h_2 y ho=>exact⟨_,by simp[execOp,ho],AG he h⟩
 case h_3 c p q ho=>
  split at h
  ·rename_i b hb
   have hc:=EE (AG he hb)
   split at h
   ·exact⟨_,by simp[execOp,ho,hc,asBool],AG he h⟩
   ·exact⟨_,by simp[execOp,ho,hc,asBool],AG he h⟩
  ·simp at h
 case h_4 op t y z yt ho=>
  split at h
  ·rename_i p hp
   split at h
   ·rename_i q hq
    obtain⟨r,h1,h2⟩:=Aey (P:=P) hte h (AG he hp) (AG he hq)
    refine⟨r,?_,h2⟩
    simp only[Sem.run_bind]at h1
    simp only[execOp,ho,Sem.run_bind,h1,Result.andThen_ok,Sem.run_pure]
   ·simp at h
  ·simp at h
 case h_5 op t y ho=>
  split at h
  ·rename_i p hp
   obtain⟨r,h1,h2⟩:=Ak2 (P:=P) h (AG he hp)
   exact⟨r,by simp[execOp,ho,h1],h2⟩
  ·simp at h
 case h_6 s d y ho=>
  split at h
  ·rename_i p hp
   split at h
   ·rename_i si hs
    obtain⟨e,hs',_⟩:=(hte _ _ hs).und'
    obtain⟨r,h1,h2⟩:=Vz (P:=P) hte (s:=s) ⟨e,hs'⟩ h (AG he hp)
    exact⟨r,by simp[execOp,ho,h1],h2⟩
   ·simp at h
  ·simp at h
 case h_7 t y ho=>
  split at h
  ·rename_i p hp
   obtain⟨r,h1,h2⟩:=R7 (P:=P) hte h (AG he hp)
   exact⟨r,by simp[execOp,ho,h1],h2⟩
  ·simp at h
 case h_8 fn f c ho=>
  split at h
  ·rename_i fs hf
   split at h
   ·rename_i cs hc
    simp at h;subst h
    obtain⟨f1,f2⟩:=N2 he hf
    obtain⟨c1,c2⟩:=N2 he hc
    refine⟨.func fn (f.toList.map a.eval).toArray (c.toList.map a.eval).toArray,?_,LA ⟨by simpa using f1,f2⟩ ⟨by simpa using c1,c2⟩⟩
    have em: ∀(f:Array Operand),(f.toList.map a.eval).toArray=f.map a.eval:=by intro f;apply Array.ext';simp
    rw[em,em]
    simp[execOp,ho,Instr.makeFunc]
   ·simp at h
  ·simp at h
 case h_9 y ho=>
  split at h
  ·rename_i p hp
   obtain⟨h1,h2⟩:=S6 (P:=P) (w:=w) (g:=g) ho h (AG he hp)
   exact⟨_,h1,h2⟩
  ·simp at h
 case h_10 t y i ho=>
  split at h
  ·rename_i p hp
   obtain⟨r,h1,h2⟩:=K4 (P:=P) hte h (AG he hp)
   exact⟨r,by simp[execOp,ho,h1],h2⟩
  ·simp at h
 case h_11 t y i ho=>
  split at h
  ·rename_i cs hp
   split at h
   ·rename_i off ft hf
    unfold Ain at hf
    split at hf
    ·rename_i i1 i2 i3 fs hl
     obtain⟨gs,hd,hg⟩:=IR (hte _ _ hl) w rfl
     obtain⟨f,hf1,hf2,hf3⟩:=Vm hg hf
     have hrel:=AG he hp
     generalize hv:a.eval y=v at hrel
     cases hrel with
     |agg vs _ hl hr=>
      obtain⟨r,h1,h2⟩:=Iu (P:=P) hte h ⟨hl,hr⟩
      refine⟨r,?_,h2⟩
      subst hf2;subst hf3
      simp[execOp,ho,hv,Instr.field,hd,hf1,asAgg,h1]
    ·simp at hf
   ·simp at h
  ·simp at h
 case h_12 t y i ho=>
  split at h
  ·rename_i p hp
   split at h
   ·rename_i q hq
    obtain⟨r,h1,h2⟩:=RG (P:=P) hte h (AG he hp) (AG he hq)
    exact⟨r,by simp[execOp,ho,h1],h2⟩
   ·simp at h
  ·simp at h
 case h_13 t y i ho=>
  split at h
  ·rename_i p hp
   split at h
   ·rename_i q hq
    obtain⟨r,h1,h2⟩:=Zo (P:=P) hte h (AG he hp) (AG he hq)
    exact⟨r,by simp[execOp,ho,h1],h2⟩
   ·simp at h
  ·simp at h
 case h_14 y i ho=>
  split at h
  ·rename_i p hp
   unfold Xw at h
   split at h
   ·rename_i xs
    have hrel:=AG he hp
    generalize hv:a.eval y=v at hrel
    cases hrel with
    |tuple vs _ hl hr=>
     have hlt:i<xs.length:=by
      rcases Nat.lt_or_ge i xs.length with h'|h'
      ·exact h'
      ·rw[List.getElem?_eq_none h']at h;simp at h
     obtain⟨u,hu⟩: ∃u,vs[i]?=some u:=⟨vs[i]'(by rw[hl];exact hlt),List.getElem?_eq_getElem _⟩
     exact⟨u,by simp[execOp,ho,hv,Instr.extract,hu],hr _ _ _ hu h⟩
   ·simp at h
  ·simp at h
 case h_15 t y lo hi mx ho=>
  split at h
  ·rename_i p hp
   obtain⟨r,h1,h2⟩:=Y1 (P:=P) hte he h (AG he hp)
   exact⟨r,by simp[execOp,ho,h1],h2⟩
  ·simp at h
 case h_16 c ho=>
  split at h
  ·rename_i hc
   split at h
   ·rename_i x1 y1 hargs
    split at h
    ·rename_i k p hp
     split at h
     ·rename_i k' q hq
      simp at h;subst h
      have hargs':c.args= #[x1,y1]:=by apply Array.ext';simp[hargs]
      have e1:=C3 (AG he hp)
      have e2:=C3 (AG he hq)
      exact⟨.int k (Asl p q),by simp[execOp,ho,resolve,hc,invoke,builtin,hargs',e1,e2,Builtin.max_,Builtin.max2,Asl],.t _ _ (.int _ _)⟩
     ·simp at h
    ·simp at h
   ·simp at h
  ·rename_i hc
   split at h
   ·rename_i x1 y1 hargs
    split at h
    ·rename_i k p hp
     split at h
     ·rename_i k' q hq
      simp at h;subst h
      have hargs':c.args= #[x1,y1]:=by apply Array.ext';simp[hargs]
      have e1:=C3 (AG he hp)
      have e2:=C3 (AG he hq)
      exact⟨.int k (Asj p q),by simp[execOp,ho,resolve,hc,invoke,builtin,hargs',e1,e2,Builtin.min_,Builtin.min2,Asj],.t _ _ (.int _ _)⟩
     ·simp at h
    ·simp at h
   ·simp at h
  ·rename_i hc
   split at h
   ·rename_i y hargs
    split at h
    ·rename_i p hp
     split at h
     ·rename_i t rest hts
      have ht:c.argTypes[0]?=some t:=by rw[<-Array.getElem?_toList,hts];rfl
      obtain⟨r,h1,h2⟩:=Ah2 (P:=P) hte (ty:=o.type) ht h (AG he hp)
      refine⟨r,?_,h2⟩
      have hargs':c.args= #[y]:=by apply Array.ext';simp[hargs]
      simp[execOp,ho,resolve,hc,invoke,builtin,hargs',h1]
     ·simp at h
    ·simp at h
   ·simp at h
  ·simp at h
 case h_17=>simp at h
end
end Go.Am
namespace Go.Am
theorem HT {w w':World} {b:Nat} (h:w'.heap[b]?=w.heap[b]?):w'.shape? b=w.shape? b:=by simp[World.shape?,h]
theorem Agk {w:World} {b:Nat} {p:TypeId×Nat} (h:w.shape? b=some p):b<w.heap.size:=by
 unfold World.shape? at h
 rcases Nat.lt_or_ge b w.heap.size with h'|h'
 ·exact h'
 ·simp[Array.getElem?_eq_none h']at h
theorem Cw {w:World} {b:Nat} {o:Obj} (h:w.heap[b]?=some o):b<w.heap.size:=by
 rcases Nat.lt_or_ge b w.heap.size with h'|h'
 ·exact h'
 ·simp[Array.getElem?_eq_none h']at h
theorem Fc.mono {w w':World} {g g':G} {b:Nat} {B:Blk} (hb:g'.β b=g.β b) (ho: ∀blk,g.β b=some (some blk)->g.own blk->g'.own blk)
  (hh: ∀blk,g.β b=some (some blk)->w'.heap[blk]?=w.heap[blk]?) (hr: ∀v x,Rel w g v x->Rel w' g' v x) (h:Fc w g b B):Fc w' g' b B:=by
 cases B with
 |cells cs=>
  obtain⟨blk,vs,e,h1,h2,h3,h4,h5⟩:=h
  exact⟨blk,vs,e,by rw[hb];exact h1,ho _ h1 h2,by rw[hh _ h1];exact h3,h4,fun i v x hv hx=>hr _ _ (h5 i v x hv hx)⟩
 |grow sz es=>
  obtain⟨h0,h⟩:=h
  refine⟨h0,?_⟩
  rcases h with⟨h1,h2⟩|⟨blk,vs,e,h1,h2,h3,h4,h5⟩
  ·exact .inl ⟨by rw[hb];exact h1,h2⟩
  ·exact .inr ⟨blk,vs,e,by rw[hb];exact h1,ho _ h1 h2,by rw[hh _ h1];exact h3,h4,fun i v x hv hx=>⟨(h5 i v x hv hx).1,Aw (hr _ _ (.t _ _ (h5 i v x hv hx).2))⟩⟩
 |rights L=>have h1:g.β b=some none:=h;show g'.β b=some none;rw[hb];exact h1
 |loop l st pe ps asg bd n env=>
  obtain⟨r,h1,h2,h3,h4,h5,h6⟩:=h
  exact⟨r,by rw[hb];exact h1,ho _ h1 h2,by rw[hh _ h1];exact h3,h4,h5,fun t x ht=>hr _ _ (h6 t x ht)⟩
 |mp ks xs=>
  obtain⟨blk,es,clk,h1,h2,h3,h4,h5,h6,h7⟩:=h
  exact⟨blk,es,clk,by rw[hb];exact h1,ho _ h1 h2,by rw[hh _ h1];exact h3,h4,h5,fun i e x he hx=>Aw (hr _ _ (.t _ _ (h6 i e x he hx))),fun i e x he hx=>hr _ _ (h7 i e x he hx)⟩
theorem Inv.none {w:World} {g:G} {σ:St} (h:Inv w g σ) {b:Nat} (hb:look σ b=none):g.β b=none:=by
 have:=h.dom b
 rw[hb]at this
 cases hg:g.β b with
 |none=>rfl
 |some p=>rw[hg]at this;simp at this
structure More (w w':World) (o:Obj):Prop where
 size:w'.heap.size=w.heap.size+1
 old: ∀blk,blk<w.heap.size->w'.heap[blk]?=w.heap[blk]?
 new:w'.heap[w.heap.size]?=some o
 same:ZS w w'
theorem More.alloc (w:World) (o:Obj):More w (w.alloc o) o where
 size:=by simp
 old blk hb:=heap_alloc_old w o blk hb
 new:=heap_alloc_new w o
 same:=⟨rfl,rfl⟩
theorem A1u (w:World) (o:Obj):More w (w.drew.alloc o) o where
 size:=by simp
 old blk hb:=heap_alloc_old w.drew o blk hb
 new:=heap_alloc_new w.drew o
 same:=⟨rfl,rfl⟩
section
variable {w w':World} {g:G} {σ:St} {o:Obj}
theorem More.shape (hm:More w w' o): ∀b p,w.shape? b=some p->w'.shape? b=some p:=fun b p hp=>by
 rw[HT (hm.old b (Agk hp))];exact hp
theorem Ez (hi:Inv w g σ) (hm:More w w' o):Ext w g w' g/\Inv w' g σ/\(∀v x,Rel w g v x->Rel w' g v x):=by
 have hext:Ext w g w' g:=⟨by rw[hm.size];omega,fun blk hb _=>hm.old blk hb,fun _ _ h=>h,fun _ _=>Iff.rfl,hm.shape,fun _ h=>⟨h,rfl⟩,⟨rfl,hm.same⟩,Gt (fun _ _ _ _ h=>h) (fun blk e hb _ _=>hm.old blk hb)⟩
 have hr: ∀v x,Rel w g v x->Rel w' g v x:=fun v x h=>h.mono hext.keeps (fun _ _ h=>h) hm.shape
 refine⟨hext,⟨fun b B hB=>?_,hi.dom,hi.inj,fun blk hb=>by have:=hi.lt blk hb;rw[hm.size];omega,hi.bx,hi.dis,hi.im_of hext.keeps,by have:=hi.lo;rw[hm.size];omega,hi.sx.mono (by rw[hm.size];omega) rfl (fun _ _ _ h=>h) (fun blk e h _ _=>hm.old blk (hi.sx.lt _ _ h)) (fun c blk h=>.inl ⟨c,h⟩) (fun _ _ h=>h)⟩,hr⟩
 have hok:=hi.ok b B hB
 refine hok.mono rfl (fun _ _ h=>h) (fun blk hb=>hm.old _ ?_) hr
 cases B with
 |cells cs=>obtain⟨blk',vs,e,h1,h2,h3,_⟩:=hok;rw[h1]at hb;cases hb;exact Cw h3
 |grow sz es=>
  rcases hok.2 with⟨h1,_⟩|⟨blk',vs,e,h1,h2,h3,_⟩
  ·rw[h1]at hb;cases hb
  ·rw[h1]at hb;cases hb;exact Cw h3
 |rights L=>have h1:g.β b=some none:=hok;rw[h1]at hb;cases hb
 |loop l st pe ps asg bd n env=>obtain⟨r,h1,h2,h3,_⟩:=hok;rw[h1]at hb;cases hb;exact Cw h3
 |mp ks xs=>obtain⟨blk',es,clk,h1,h2,h3,_⟩:=hok;rw[h1]at hb;cases hb;exact Cw h3
theorem Aia (hi:Inv w g σ) (o:Nat): ¬g.M w.heap.size o:=fun h=>by
 rcases h with⟨h,_⟩|h
 ·have:=hi.lt _ (.inl h);omega
 ·have:=hi.lt _ (.inr ⟨_,h⟩);omega
def G.with (g:G) (lab:Nat) (p:Option Nat):G:={g with β:=fun b=>if b=lab then some p else g.β b,own:=fun blk=>g.own blk\/p=some blk}
theorem KS (hi:Inv w g σ) {lab:Nat} (hl:look σ lab=none) (hm:More w w' o) {B:Blk}
  (hB:(∀v x,Rel w g v x->Rel w' (g.with lab (some w.heap.size)) v x)->Fc w' (g.with lab (some w.heap.size)) lab B):
  Ext w g w' (g.with lab (some w.heap.size))/\Inv w' (g.with lab (some w.heap.size)) ((lab,B)::σ)/\(∀v x,Rel w g v x->Rel w' (g.with lab (some w.heap.size)) v x):=by
 have hn:=hi.none hl
 have hbx: ∀b,g.bx b->b≠lab:=by
  intro b hb e;subst e;obtain⟨cs,h⟩:=(hi.bx _ hb).2;rw[hl]at h;cases h
 have hext:Ext w g w' (g.with lab (some w.heap.size)):=by
  refine⟨by rw[hm.size];omega,fun blk hb _=>hm.old blk hb,?_,fun _ _=>Iff.rfl,hm.shape,fun b hb=>⟨hb,by simp[G.with,hbx b hb]⟩,⟨rfl,hm.same⟩,Gt (fun _ _ _ _ h=>h) (fun blk e hb _ _=>hm.old blk hb)⟩
  rintro blk hb (h|h)
  ·exact h
  ·simp at h;omega
 have hr: ∀v x,Rel w g v x->Rel w' (g.with lab (some w.heap.size)) v x:=fun v x h=>by
  refine h.mono hext.keeps (fun b p hb=>?_) hm.shape
  have hne:b≠lab:=by intro e;rw[e,hn]at hb;cases hb
  simp[G.with,hne,hb]
 refine⟨hext,⟨?_,?_,?_,?_,fun b hb=>⟨(hi.bx b hb).1,by rw[Ao,if_neg (Ne.symm (hbx b hb))];exact(hi.bx b hb).2⟩,?_,hi.im_of hext.keeps,(by have:=hi.lo;rw[hm.size];exact Nat.le_succ_of_le this),hi.sx.mono (by rw[hm.size];omega) rfl (fun _ _ _ h=>.inl h) (fun blk e h _ _=>hm.old blk (hi.sx.lt _ _ h)) (fun c blk h=>?_) (fun b L hL=>?_)⟩,hr⟩
 rotate_left 4
 ·rintro blk o (h|h) ho
  ·exact hi.dis blk o h ho
  ·simp at h;subst h;have:=hi.lt _ (.inr ⟨_,ho⟩);omega
 ·simp only[G.with]at h
  split at h
  ·simp at h;subst h
   cases hs:g.sp w.heap.size with
   |none=>exact .inr rfl
   |some e=>have:=hi.sx.lt _ _ hs;omega
  ·exact .inl ⟨c,h⟩
 ·rw[Ao]at hL
  split at hL
  ·rename_i e;subst e
   simp at hL;subst hL
   have h1:(g.with lab (some w.heap.size)).β lab=some none:=hB hr
   simp[G.with]at h1
  ·exact hL
 ·intro b C hC
  rw[Ao]at hC
  split at hC
  ·rename_i e;subst e
   simp at hC;subst hC;exact hB hr
  ·rename_i hne
   have hok:=hi.ok b C hC
   refine hok.mono (by simp[G.with,Ne.symm hne]) (fun _ _ h=>.inl h) (fun blk hb=>hm.old _ ?_) hr
   cases C with
   |cells cs=>obtain⟨blk',vs,e,h1,h2,h3,_⟩:=hok;rw[h1]at hb;cases hb;exact Cw h3
   |grow sz es=>
    rcases hok.2 with⟨h1,_⟩|⟨blk',vs,e,h1,h2,h3,_⟩
    ·rw[h1]at hb;cases hb
    ·rw[h1]at hb;cases hb;exact Cw h3
   |rights L=>have h1:g.β b=some none:=hok;rw[h1]at hb;cases hb
   |loop l st pe ps asg bd n env=>obtain⟨r,h1,h2,h3,_⟩:=hok;rw[h1]at hb;cases hb;exact Cw h3
   |mp ks xs=>obtain⟨blk',es,clk,h1,h2,h3,_⟩:=hok;rw[h1]at hb;cases hb;exact Cw h3
 ·intro b
  rw[Ao]
  by_cases e:lab=b
  ·subst e;simp[G.with]
  ·simp only[if_neg e];rw[hi.dom b];simp[G.with,Ne.symm e]
 ·intro b b' blk h1 h2
  simp only[G.with]at h1 h2
  have E9: ∀c,g.β c=some (some blk)->blk<w.heap.size:=by
   intro c hc
   have hd:=hi.dom c
   rw[hc]at hd
   cases hlk:look σ c with
   |none=>rw[hlk]at hd;simp at hd
   |some C=>
    have hok:=hi.ok c C hlk
    cases C with
    |cells cs=>obtain⟨blk',vs,e,h1,h2,h3,_⟩:=hok;rw[h1]at hc;cases hc;exact Cw h3
    |grow sz es=>
     rcases hok.2 with⟨h1,_⟩|⟨blk',vs,e,h1,h2,h3,_⟩
     ·rw[h1]at hc;cases hc
     ·rw[h1]at hc;cases hc;exact Cw h3
    |rights L=>have h1:g.β c=some none:=hok;rw[h1]at hc;cases hc
    |loop l st pe ps asg bd n env=>obtain⟨r,h1,h2,h3,_⟩:=hok;rw[h1]at hc;cases hc;exact Cw h3
    |mp ks xs=>obtain⟨blk',es,clk,h1,h2,h3,_⟩:=hok;rw[h1]at hc;cases hc;exact Cw h3
  by_cases e1:b=lab<;>by_cases e2:b'=lab
  ·rw[e1,e2]
  ·rw[if_pos e1]at h1;rw[if_neg e2]at h2
   have:=E9 _ h2
   simp at h1;omega
  ·rw[if_neg e1]at h1;rw[if_pos e2]at h2
   have:=E9 _ h1
   simp at h2;omega
  ·rw[if_neg e1]at h1;rw[if_neg e2]at h2
   exact hi.inj _ _ _ h1 h2
 ·rintro blk ((h|h)|⟨o,h⟩)
  ·have:=hi.lt blk (.inl h);rw[hm.size];omega
  ·simp at h;rw[hm.size];omega
  ·have:=hi.lt blk (.inr ⟨o,h⟩);rw[hm.size];omega
theorem PM (hi:Inv w g σ) {lab sz:Nat} (hl:look σ lab=none):
  Ext w g w (g.with lab none)/\Inv w (g.with lab none) ((lab,.grow sz [])::σ)/\(∀v x,Rel w g v x->Rel w (g.with lab none) v x):=by
 have hn:=hi.none hl
 have hbx: ∀b,g.bx b->b≠lab:=by
  intro b hb e;subst e;obtain⟨cs,h⟩:=(hi.bx _ hb).2;rw[hl]at h;cases h
 have hext:Ext w g w (g.with lab none):=by
  refine⟨Nat.le_refl _,fun _ _ _=>rfl,?_,fun _ _=>Iff.rfl,fun _ _ h=>h,fun b hb=>⟨hb,by simp[G.with,hbx b hb]⟩,⟨rfl,rfl,rfl⟩,Gt (fun _ _ _ _ h=>h) (fun _ _ _ _ _=>rfl)⟩
  rintro blk hb (h|h)
  ·exact h
  ·cases h
 have hr: ∀v x,Rel w g v x->Rel w (g.with lab none) v x:=fun v x h=>by
  refine h.mono hext.keeps (fun b p hb=>?_) (fun _ _ h=>h)
  have hne:b≠lab:=by intro e;rw[e,hn]at hb;cases hb
  simp[G.with,hne,hb]
 refine⟨hext,⟨?_,?_,?_,?_,fun b hb=>⟨(hi.bx b hb).1,by rw[Ao,if_neg (Ne.symm (hbx b hb))];exact(hi.bx b hb).2⟩,?_,hi.im_of hext.keeps,hi.lo,hi.sx.mono (Nat.le_refl _) rfl (fun _ _ _ h=>.inl h) (fun _ _ _ _ _=>rfl) (fun c blk h=>?_) (fun b L hL=>?_)⟩,hr⟩
 rotate_left 4
 ·rintro blk o (h|h) ho
  ·exact hi.dis blk o h ho
  ·cases h
 ·simp only[G.with]at h
  split at h
  ·cases h
  ·exact .inl ⟨c,h⟩
 ·rw[Ao]at hL
  split at hL
  ·cases hL
  ·exact hL
 ·intro b C hC
  rw[Ao]at hC
  split at hC
  ·rename_i e;subst e
   simp at hC;subst hC;exact⟨by simp,.inl ⟨by simp[G.with],rfl⟩⟩
  ·rename_i hne
   exact(hi.ok b C hC).mono (by simp[G.with,Ne.symm hne]) (fun _ _ h=>.inl h) (fun blk hb=>rfl) hr
 ·intro b
  rw[Ao]
  by_cases e:lab=b
  ·subst e;simp[G.with]
  ·simp only[if_neg e];rw[hi.dom b];simp[G.with,Ne.symm e]
 ·intro b b' blk h1 h2
  simp only[G.with]at h1 h2
  by_cases e1:b=lab<;>by_cases e2:b'=lab
  ·rw[e1,e2]
  ·rw[if_pos e1]at h1;cases h1
  ·rw[if_pos e2]at h2;cases h2
  ·rw[if_neg e1]at h1;rw[if_neg e2]at h2
   exact hi.inj _ _ _ h1 h2
 ·rintro blk ((h|h)|h)
  ·exact hi.lt blk (.inl h)
  ·cases h
  ·exact hi.lt blk (.inr h)
structure Sets (w w':World) (blk:Nat) (vs':Array Value) (e:TypeId):Prop where
 size:w'.heap.size=w.heap.size
 old: ∀b,b≠blk->w'.heap[b]?=w.heap[b]?
 new:w'.heap[blk]?=some (.cells vs' e (0,0))
 same:ZS w w'
theorem Sets.setRow {w:World} {blk:Nat} {vs:Array Value} {e:TypeId} (h:w.heap[blk]?=some (.cells vs e (0,0))) (vs':Array Value):Sets w (w.setRow blk vs') blk vs' e where
 size:=by simp
 old b hb:=setRow_other w blk b vs' hb
 new:=setRow_heap w blk vs vs' e (0,0) h
 same:=⟨rfl,rfl⟩
def upd {α:Type}:List (Nat×α)->Nat->α->List (Nat×α)
 |[],n,x=>[(n,x)]
 |(k,y)::r,n,x=>bif Nat.beq k n then(k,x)::r else(k,y)::upd r n x
theorem B3 {α:Type}: ∀(l:List (Nat×α)) (n:Nat) (x:α) (m:Nat),look (upd l n x) m=if n=m then some x else look l m
 |[],n,x,m=>by simp only[upd];rw[Ao]
 |(k,y)::r,n,x,m=>by
  by_cases h:k=n
  ·subst h
   simp only[upd,Nat.beq_refl,cond_true]
   rw[Ao,Ao]
   by_cases h2:k=m<;>simp[h2]
  ·have hb:Nat.beq k n=false:=by
    cases hb:Nat.beq k n with
    |false=>rfl
    |true=>exact absurd (Nat.eq_of_beq_eq_true hb) h
   simp only[upd,hb,cond_false]
   rw[Ao,Ao,B3 r n x m]
   by_cases h2:k=m
   ·subst h2;simp[Ne.symm h]
   ·simp[h2]
section
variable {w w':World} {g:G} {σ:St}
theorem E9 (hi:Inv w g σ) {c blk:Nat} (hc:g.β c=some (some blk)):blk<w.heap.size/\g.own blk/\True:=by
 have hd:=hi.dom c
 rw[hc]at hd
 cases hlk:look σ c with
 |none=>rw[hlk]at hd;simp at hd
 |some C=>
  have hok:=hi.ok c C hlk
  cases C with
  |cells cs=>obtain⟨blk',vs,e,h1,h2,h3,_⟩:=hok;rw[h1]at hc;cases hc;exact⟨Cw h3,h2,trivial⟩
  |grow sz es=>
   rcases hok.2 with⟨h1,_⟩|⟨blk',vs,e,h1,h2,h3,_⟩
   ·rw[h1]at hc;cases hc
   ·rw[h1]at hc;cases hc;exact⟨Cw h3,h2,trivial⟩
  |rights L=>have h1:g.β c=some none:=hok;rw[h1]at hc;cases hc
  |loop l st pe ps asg bd n env=>obtain⟨r,h1,h2,h3,_⟩:=hok;rw[h1]at hc;cases hc;exact⟨Cw h3,h2,trivial⟩
  |mp ks xs=>obtain⟨blk',es,clk,h1,h2,h3,_⟩:=hok;rw[h1]at hc;cases hc;exact⟨Cw h3,h2,trivial⟩
theorem MM (hi:Inv w g σ) {b blk:Nat} {vs vs':Array Value} {e:TypeId} (hb:g.β b=some (some blk)) (hh:w.heap[blk]?=some (.cells vs e (0,0))) (hs:vs'.size=vs.size)
  (hw:Sets w w' blk vs' e) {B:Blk} (hk:(∃cs,look σ b=some (.cells cs))-> ∃cs,B=.cells cs) (hB:(∀v x,Rel w g v x->Rel w' g v x)->Fc w' g b B):
  Ext w g w' g/\Inv w' g (upd σ b B)/\(∀v x,Rel w g v x->Rel w' g v x):=by
 have hown:=(E9 hi hb).2.1
 have hshape: ∀c p,w.shape? c=some p->w'.shape? c=some p:=by
  intro c p hp
  by_cases e':c=blk
  ·subst e'
   simp only[World.shape?,hh]at hp
   simp only[World.shape?,hw.new,hs];exact hp
  ·rw[HT (hw.old c e')];exact hp
 have hext:Ext w g w' g:=⟨by rw[hw.size];omega,fun c _ hc=>hw.old c (fun e'=>hc (e'▸hown)),fun _ _ h=>h,fun _ _=>Iff.rfl,hshape,fun _ h=>⟨h,rfl⟩,⟨rfl,hw.same⟩,Gt (fun _ _ _ _ h=>h) (fun c e _ _ h=>hw.old c (fun e'=>by subst e';rw[hi.sx.bs _ _ hb]at h;cases h))⟩
 have hr: ∀v x,Rel w g v x->Rel w' g v x:=fun v x h=>h.mono hext.keeps (fun _ _ h=>h) hshape
 refine⟨hext,⟨?_,?_,hi.inj,fun c hc=>by rw[hw.size];exact hi.lt c hc,fun c hc=>⟨(hi.bx c hc).1,?_⟩,hi.dis,hi.im_of hext.keeps,by rw[hw.size];exact hi.lo,hi.sx.mono (by rw[hw.size];exact Nat.le_refl _) rfl (fun _ _ _ h=>h) (fun c e h _ _=>hw.old c (fun e'=>by subst e';rw[hi.sx.bs _ _ hb]at h;cases h)) (fun c blk h=>.inl ⟨c,h⟩) (fun c L hL=>?_)⟩,hr⟩
 ·intro c C hC
  rw[B3]at hC
  split at hC
  ·rename_i e';subst e';simp at hC;subst hC;exact hB hr
  ·rename_i hne
   refine(hi.ok c C hC).mono rfl (fun _ _ h=>h) (fun blk' hb'=>hw.old _ ?_) hr
   intro e';subst e'
   exact hne (hi.inj _ _ _ hb hb')
 ·intro c
  rw[B3]
  by_cases e':b=c
  ·subst e';simp[hb]
  ·simp only[if_neg e'];exact hi.dom c
 ·rw[B3]
  by_cases e':b=c
  ·subst e'
   obtain⟨cs,h⟩:=hk (hi.bx b hc).2
   exact⟨cs,by simp[h]⟩
  ·simp only[if_neg e'];exact(hi.bx c hc).2
 ·rw[B3]at hL
  split at hL
  ·rename_i e';subst e';simp at hL;subst hL
   have h1:g.β b=some none:=hB hr
   rw[h1]at hb;cases hb
  ·exact hL
def JB (b:Nat):List AV->List AV
 |[]=>[]
 |x::r=>(bif x.has b then .top else x)::JB b r
def Fs (b:Nat):Env->Env
 |[]=>[]
 |(t,x)::r=>(t,bif x.has b then .top else x)::Fs b r
def CP (b:Nat):St->St
 |[]=>[]
 |(c,B)::r=>bif Nat.beq c b then CP b r else(c,match B with
  |.cells cs=>.cells (JB b cs)
  |.loop l st pe ps asg bd n env=>.loop l st pe ps asg bd n (Fs b env)
  |.mp ks xs=>.mp ks (JB b xs)
  |B=>B)::CP b r
theorem Oq (b:Nat): ∀l,(JB b l).length=l.length
 |[]=>rfl
 |x::r=>by simp[JB,Oq b r]
theorem Ot {b:Nat}: ∀{l:List AV} {i:Nat} {x:AV},(JB b l)[i]?=some x-> ∃y,l[i]?=some y/\((x=y/\y.has b=false)\/x=.top)
 |[],i,x,h=>by simp[JB]at h
 |y::r,0,x,h=>by
  simp only[JB,List.getElem?_cons_zero,Option.some.injEq]at h
  refine⟨y,rfl,?_⟩
  cases hy:y.has b with
  |false=>rw[hy]at h;exact .inl ⟨h.symm,rfl⟩
  |true=>rw[hy]at h;exact .inr h.symm
 |y::r,i+1,x,h=>by
  simp only[JB,List.getElem?_cons_succ]at h
  obtain⟨z,h1,h2⟩:=Ot h
  exact⟨z,by simpa using h1,h2⟩
theorem Ou {b:Nat}: ∀{l:Env} {t:Nat} {x:AV},look (Fs b l) t=some x-> ∃y,look l t=some y/\((x=y/\y.has b=false)\/x=.top)
 |[],t,x,h=>by simp[Fs,look]at h
 |(k,y)::r,t,x,h=>by
  simp only[Fs]at h
  rw[Ao]at h
  rw[Ao]
  split at h
  ·rename_i e
   simp only[Option.some.injEq]at h
   refine⟨y,by simp[e],?_⟩
   cases hy:y.has b with
   |false=>rw[hy]at h;exact .inl ⟨h.symm,rfl⟩
   |true=>rw[hy]at h;exact .inr h.symm
  ·rename_i e
   obtain⟨z,h1,h2⟩:=Ou h
   exact⟨z,by simp[e,h1],h2⟩
def Aq8 (b:Nat) (B:Blk):Blk:=match B with
  |.cells cs=>.cells (JB b cs)
  |.loop l st pe ps asg bd n env=>.loop l st pe ps asg bd n (Fs b env)
  |.mp ks xs=>.mp ks (JB b xs)
  |B=>B
theorem DD {b:Nat}: ∀(l:St) (c:Nat),look (CP b l) c=if c=b then none else(look l c).map (Aq8 b)
 |[],c=>by simp[CP,look]
 |(k,B)::r,c=>by
  by_cases h:k=b
  ·subst h
   simp only[CP,Nat.beq_refl,cond_true]
   rw[DD r c,Ao]
   by_cases h2:c=k
   ·simp[h2]
   ·simp[h2,Ne.symm h2]
  ·have hb:Nat.beq k b=false:=by
    cases hb:Nat.beq k b with
    |false=>rfl
    |true=>exact absurd (Nat.eq_of_beq_eq_true hb) h
   simp only[CP,hb,cond_false]
   rw[Ao,Ao,DD r c]
   by_cases h2:k=c
   ·subst h2;simp[h];cases B<;>rfl
   ·simp[h2]
def G.without (g:G) (b:Nat):G:={g with β:=fun c=>if c=b then none else g.β c}
theorem Rel.without {b:Nat} {v:Value} {x:AV} (h:Rel w g v x) (hx:x.has b=false):Rel w (g.without b) v x:=
 Rel.mono_but (w:=w) (w':=w) (g:=g) (g':=g.without b) b (fun _ _ _ h1 h2=>⟨h1,h2⟩) (fun c p hne hc=>by simp[G.without,hne,hc]) (fun _ _ h=>h) h hx
theorem Ad2 (hi:Inv w g σ) (b:Nat) (hnb: ¬g.bx b):Ext w g w (g.without b)/\Inv w (g.without b) (CP b σ)/\ ∀a env,AK w g a env->AK w (g.without b) a (Fs b env):=by
 have hne: ∀c,g.bx c->c≠b:=fun c hc e=>hnb (e▸hc)
 refine⟨⟨Nat.le_refl _,fun _ _ _=>rfl,fun _ _ h=>h,fun _ _=>Iff.rfl,fun _ _ h=>h,fun c hc=>⟨hc,by simp[G.without,hne c hc]⟩,⟨rfl,rfl,rfl⟩,Gt (fun _ _ _ _ h=>h) (fun _ _ _ _ _=>rfl)⟩,⟨?_,?_,?_,hi.lt,fun c hc=>⟨(hi.bx c hc).1,?_⟩,hi.dis,hi.im,hi.lo,hi.sx.mono (Nat.le_refl _) rfl (fun _ _ _ h=>h) (fun _ _ _ _ _=>rfl) (fun c blk h=>?_) (fun c L hL=>?_)⟩,?_⟩
 ·intro c C hC
  rw[DD]at hC
  split at hC
  ·simp at hC
  ·rename_i hne
   cases hl:look σ c with
   |none=>simp[hl]at hC
   |some D=>
    simp only[hl,Option.map_some,Option.some.injEq]at hC
    subst hC
    have hok:=hi.ok c D hl
    cases D with
    |cells cs=>
     obtain⟨blk,vs,e,h1,h2,h3,h4,h5⟩:=hok
     refine⟨blk,vs,e,by simp[G.without,hne,h1],h2,h3,by rw[Oq];exact h4,fun i v x hv hx=>?_⟩
     obtain⟨y,hy,h|h⟩:=Ot hx
     ·obtain⟨rfl,hh⟩:=h
      exact(h5 i v _ hv hy).without hh
     ·subst h;exact .top v
    |grow sz es=>
     obtain⟨h0,h⟩:=hok
     refine⟨h0,?_⟩
     rcases h with⟨h1,h2⟩|⟨blk,vs,e,h1,h2,h3,h4,h5⟩
     ·exact .inl ⟨by simp[G.without,hne,h1],h2⟩
     ·exact .inr ⟨blk,vs,e,by simp[G.without,hne,h1],h2,h3,h4,h5⟩
    |rights L=>have h1:g.β c=some none:=hok;show(g.without b).β c=some none;simp[G.without,hne,h1]
    |loop l st pe ps asg bd n env=>
     obtain⟨r,h1,h2,h3,h4,h5,h6⟩:=hok
     refine⟨r,by simp[G.without,hne,h1],h2,h3,h4,h5,fun t x ht=>?_⟩
     obtain⟨y,hy,h|h⟩:=Ou ht
     ·obtain⟨rfl,hh⟩:=h
      exact(h6 t _ hy).without hh
     ·subst h;exact .top _
    |mp ks xs=>
     obtain⟨blk,es,clk,h1,h2,h3,h4,h5,h6,h7⟩:=hok
     refine⟨blk,es,clk,by simp[G.without,hne,h1],h2,h3,h4,by rw[Oq];exact h5,h6,fun i e x he hx=>?_⟩
     obtain⟨y,hy,h|h⟩:=Ot hx
     ·obtain⟨rfl,hh⟩:=h
      exact(h7 i e _ he hy).without hh
     ·subst h;exact .top _
 ·intro c
  rw[DD]
  by_cases e:c=b
  ·simp[e,G.without]
  ·simp only[if_neg e,G.without]
   rw[<-hi.dom c];cases look σ c<;>rfl
 ·intro c c' blk h1 h2
  simp only[G.without]at h1 h2
  split at h1
  ·cases h1
  ·split at h2
   ·cases h2
   ·exact hi.inj _ _ _ h1 h2
 ·obtain⟨cs,h⟩:=(hi.bx c hc).2
  exact⟨JB b cs,by rw[DD,if_neg (hne c hc),h];rfl⟩
 ·simp only[G.without]at h
  split at h
  ·cases h
  ·exact .inl ⟨c,h⟩
 ·rw[DD]at hL
  split at hL
  ·cases hL
  ·cases hl:look σ c with
   |none=>simp[hl]at hL
   |some D=>
    simp only[hl,Option.map_some,Option.some.injEq]at hL
    cases D<;>simp[Aq8]at hL
    subst hL;rfl
 ·intro a env he t x hx
  obtain⟨y,hy,h|h⟩:=Ou hx
  ·obtain⟨rfl,hh⟩:=h
   exact(he t _ hy).without hh
  ·subst h;exact .top _
end
end
end Go.Am
namespace Go.Am
structure Cfg where
 te:TE
 imm:List Nat
 own:List Nat
def S5:AV->Bool
 |.t x=>CK x
 |.top=>false
 |.agg _=>false
 |.tuple _=>false
 |_=>true
def D5:List AV->Bool
 |[]=>true
 |x::r=>S5 x&&D5 r
def Ah:List T->List AV
 |[]=>[]
 |x::r=>.t x::Ah r
def J0 (x:AV):Option (List AV):=
 match x with
 |.agg cs=>bif D5 cs then some cs else none
 |.t (.agg ts)=>bif D5 (Ah ts)then some (Ah ts)else none
 |x=>bif S5 x then some [x]else none
def EL {α:Type} (cs:List α) (off:Nat) (new:List α):List α:=cs.take off++(new++cs.drop (off+new.length))
def evP (env:Env):List (Nat×Operand)->Option (List (Nat×AV))
 |[]=>some []
 |(i,x)::r=>match ev env x with
  |some y=>match evP env r with
   |some ys=>some ((i,y)::ys)
   |none=>none
  |none=>none
def F3 (place:Nat->Option (Nat×Nat)):List (Nat×AV)->List AV->Option (List AV)
 |[],cs=>some cs
 |(i,x)::r,cs=>match place i with
  |some (off,size)=>match J0 x with
   |some ys=>if ys.length=size then(if off+size<=cs.length then F3 place r (EL cs off ys)else none)else none
   |none=>none
  |none=>none
def KC (te:TE):List (Nat×Nat)->Bool
 |[]=>true
 |(_,t)::r=>match look te t with
  |some _=>KC te r
  |none=>false
def LX (te:TE) (fs:List (Nat×Nat)) (i:Nat):Option (Nat×Nat):=
 match fs[i]? with
 |some (off,t)=>match look te t with
  |some ti=>some (off,ti.size)
  |none=>none
 |none=>none
def Mn (te:TE) (t:Nat) (env:Env) (parts:List (Nat×Operand)):Option AV:=
 match look te t with
 |some ti=>match ti.kind with
  |.struct fs=>bif KC te fs then(match evP env parts with
   |some ps=>match F3 (LX te fs) ps (Ah ti.zero)with
    |some cs=>some (.agg cs)
    |none=>none
   |none=>none)else none
  |.array _ e=>(match look te e with
   |some ei=>(match evP env parts with
    |some ps=>match F3 (fun i=>some (i*ei.size,ei.size)) ps (Ah ti.zero)with
     |some cs=>some (.agg cs)
     |none=>none
    |none=>none)
   |none=>none)
  |_=>none
 |none=>none
def MG {α:Type} (z:List α):Nat->List α
 |0=>[]
 |n+1=>z++MG z n
def Bq {α:Type} (sz:Nat):Nat->List α->List (List α)
 |0,_=>[]
 |n+1,l=>l.take sz::Bq sz n (l.drop sz)
def DA (te:TE) (t n:Nat) (env:Env) (parts:List (Nat×Operand)):Option AV:=
 match look te t with
 |some ⟨_,_,_,.slice e⟩=>match look te e with
  |some ei=>if n*ei.size<=16777216 then(match evP env parts with
   |some ps=>match F3 (fun i=>some (i*ei.size,ei.size)) ps (Ah (MG ei.zero n))with
    |some cs=>match allT cs with
     |some ts=>(match n with
      |0=>some (.t (.slice .full 0 []))
      |n+1=>some (.t (.slice .full ei.size (Bq ei.size (n+1) ts))))
     |none=>none
    |none=>none
   |none=>none)else none
  |none=>none
 |_=>none
def I4 (te:TE) (t:Nat) (p:AV) (σ:St):Option AV:=
 match look te t with
 |some ti=>match p with
  |.ref b off=>match look σ b with
   |some (.cells cs)=>match ti.kind.agg with
    |true=>match ED ti.size (cs.drop off)with
     |some ys=>some (.agg ys)
     |none=>none
    |false=>cs[off]?
   |_=>none
  |.eref b sz k off=>match look σ b with
   |some (.grow sz' es)=>if sz=sz' then(match es[k]? with
    |some e=>match ti.kind.agg with
     |true=>match ED ti.size (e.drop off)with
      |some ys=>some (.agg (Ah ys))
      |none=>none
     |false=>match e[off]? with
      |some y=>some (.t y)
      |none=>none
    |none=>none)else none
   |_=>none
  |.t (.ptr cs)=>match ti.kind.agg with
   |true=>match ED ti.size cs with
    |some ys=>some (.agg (Ah ys))
    |none=>none
   |false=>match cs with
    |y::_=>some (.t y)
    |[]=>none
  |_=>none
 |none=>none
def EK (te:TE) (t:Nat) (p x:AV) (σ:St):Option St:=
 match look te t with
 |some ti=>match J0 x with
  |some ys=>if ys.length=ti.size then(match p with
   |.ref b off=>match look σ b with
    |some (.cells cs)=>if off+ti.size<=cs.length then some (upd σ b (.cells (EL cs off ys)))else none
    |_=>none
   |.eref b sz k off=>match look σ b with
    |some (.grow sz' es)=>if sz=sz' then(match es[k]? with
     |some e=>match allT ys with
      |some ts=>if off+ti.size<=sz then some (upd σ b (.grow sz' (es.set k (EL e off ts))))else none
      |none=>none
     |none=>none)else none
    |_=>none
   |_=>none)else none
  |none=>none
 |none=>none
def FC (n:Nat):List Nat->Bool
 |[]=>false
 |k::r=>bif Nat.beq k n then true else FC n r
def DF {R:Type} (lab:Nat) (env:Env) (σ:St) (k:Env->St->Option R):Option R:=
 match look σ lab with
 |none=>k env σ
 |some _=>k (Fs lab env) (CP lab σ)
def KW (lab:Nat) (env:Env) (σ:St) (cs:List AV):Option (AV×Env×St):=some (.ref lab 0,env,(lab,.cells cs)::σ)
def L7 (σ:St) (sz:Nat) (x:AV):Option (List (List T)):=
 match x with
 |.t (.slice _ sz' es)=>if sz=sz' then some es else(match es with
  |[]=>some []
  |_::_=>none)
 |.row b sz' lo len=>match look σ b with
  |some (.grow sz'' es)=>if sz=sz' then(if sz=sz'' then(if lo+len<=es.length then some ((es.drop lo).take len)else none)else none)else none
  |_=>none
 |_=>none
def GI (te:TE) (t:Nat) (dst:Nat) (s x:AV) (env:Env) (σ:St):Option (AV×Env×St):=
 match look te t with
 |some ⟨_,_,_,.slice e⟩=>match look te e with
  |some ei=>match L7 σ ei.size x with
   |some news=>match s with
    |.t (.slice .nil _ _)=>if news.length*(ei.bytes+1)<=140737488355328 then
      DF (2*dst) env σ (fun env σ=>some (.row (2*dst) ei.size 0 news.length,env,(2*dst,.grow ei.size news)::σ))else none
    |.t (.slice .full sz' es)=>(match sz' with
     |0=>(match es with
      |[]=>if news.length*(ei.bytes+1)<=140737488355328 then
       DF (2*dst) env σ (fun env σ=>some (.row (2*dst) ei.size 0 news.length,env,(2*dst,.grow ei.size news)::σ))else none
      |_::_=>none)
     |_+1=>if sz'=ei.size then(if(es.length+news.length)*(ei.bytes+1)<=140737488355328 then
       some (.t (.slice .any ei.size (es++news)),env,σ)else none)else none)
    |.row b sz lo len=>match look σ b,lo with
     |some (.grow sz' es),0=>if sz=ei.size then(if sz'=ei.size then(if len<=es.length then(if(len+news.length)*(ei.bytes+1)<=140737488355328 then
       some (.row b sz 0 (len+news.length),Fs b env,(b,.grow sz (es.take len++news))::CP b σ)else none)else none)else none)else none
     |_,_=>none
    |_=>none
   |none=>none
  |none=>none
 |_=>none
def R6 (te:TE) (t:Nat) (dst:Nat) (l c:AV) (env:Env) (σ:St):Option (AV×Env×St):=
 match look te t with
 |some ⟨_,_,_,.slice e⟩=>match look te e with
  |some ei=>match l with
   |.t (.int _ l)=>match L8 l with
    |some l=>match c with
     |.t (.int _ c)=>match L8 c with
      |some c=>if l<=c then(if c*(ei.bytes+1)<=140737488355328 then
        DF (2*dst) env σ (fun env σ=>some (.row (2*dst) ei.size 0 l,env,(2*dst,.grow ei.size (List.replicate l ei.zero))::σ))else none)else none
      |none=>none
     |_=>none
    |none=>none
   |_=>none
  |none=>none
 |_=>none
def F1 (c:Cfg) (o:Oper) (env:Env) (σ:St):Option (AV×Env×St):=
 match o.op with
 |.alloc t=>match o.dst with
  |some d=>match look c.te t with
   |some ti=>DF (2*d) env σ (fun env σ=>KW (2*d) env σ (Ah ti.zero))
   |none=>none
  |none=>none
 |.box t x=>match o.dst with
  |some d=>match FC t c.imm with
   |true=>match ev env x with
    |some y=>match J0 y with
     |some cs=>match allT cs with
      |some ts=>some (.t (.ptr ts),env,σ)
      |none=>none
     |none=>none
    |none=>none
   |false=>DF (2*d) env σ (fun env σ=>match ev env x with
    |some y=>match J0 y with
     |some cs=>KW (2*d) env σ cs
     |none=>none
    |none=>none)
  |none=>none
 |.build t parts=>match Mn c.te t env parts.toList with
  |some x=>some (x,env,σ)
  |none=>none
 |.buildSlice t n parts=>match DA c.te t n env parts.toList with
  |some x=>some (x,env,σ)
  |none=>none
 |.load t p=>match ev env p with
  |some q=>match I4 c.te t q σ with
   |some x=>some (x,env,σ)
   |none=>none
  |none=>none
 |.store t p x=>match ev env p with
  |some q=>match ev env x with
   |some y=>match EK c.te t q y σ with
    |some σ'=>some (.t .undef,env,σ')
    |none=>none
   |none=>none
  |none=>none
 |.makeSlice t l k=>match o.dst with
  |some d=>match ev env l with
   |some p=>match ev env k with
    |some q=>R6 c.te t d p q env σ
    |none=>none
   |none=>none
  |none=>none
 |.call cl=>match cl.callee with
  |.builtin .append=>match cl.args.toList with
   |[s,x]=>match ev env s with
    |some p=>match ev env x with
     |some q=>match cl.argTypes.toList with
      |[t,t']=>match o.dst with
       |some d=>if t=t' then GI c.te t d p q env σ else none
       |none=>none
      |_=>none
     |none=>none
    |none=>none
   |_=>none
  |_=>none
 |_=>none
def IB (kk:IntKind) (n:Int):List T->Nat->Option (Option Nat)
 |[],_=>some none
 |.int k' b::r,i=>if kk=k' then(if n=b then some (some i)else IB kk n r (i+1))else none
 |_::_,_=>none
def WH (te:TE) (t:Nat):Option Nat:=
 match look te t with
 |some ⟨_,_,_,.map kt et⟩=>match look te kt with
  |some ⟨_,_,_,.int _⟩=>some et
  |_=>none
 |_=>none
def Aab (ti:TI):AV:=bif ti.kind.agg then .agg (Ah ti.zero)else .t (ti.zero.headD .undef)
def PV (te:TE) (et:Nat) (ok:Bool) (kk:IntKind) (n:Int) (ks:List T) (xs:List AV):Option AV:=
 match IB kk n ks 0 with
 |some (some i)=>match xs[i]? with
  |some y=>some (bif ok then .tuple [y,.t (.bool true)]else y)
  |none=>none
 |some none=>match look te et with
  |some ei=>some (bif ok then .tuple [Aab ei,.t (.bool false)]else Aab ei)
  |none=>none
 |none=>none
def Ahx (σ:St) (b:Nat) (kk:IntKind) (n:Int) (y:AV):Option St:=
 match look σ b with
 |some (.mp ks xs)=>match IB kk n ks 0 with
  |some none=>some (upd σ b (.mp (ks++[.int kk n]) (xs++[y])))
  |some (some i)=>some (upd σ b (.mp ks (xs.set i y)))
  |none=>none
 |_=>none
def Ahy (σ:St) (b:Nat) (kk:IntKind) (n:Int):Option St:=
 match look σ b with
 |some (.mp ks xs)=>match IB kk n ks 0 with
  |some none=>some (upd σ b (.mp ks xs))
  |some (some i)=>some (upd σ b (.mp (ks.eraseIdx i) (xs.eraseIdx i)))
  |none=>none
 |_=>none
def PU (te:TE) (t:Nat) (m k v:Operand) (env:Env) (σ:St):Option (AV×Env×St):=
 match WH te t with
 |some _=>match ev env m with
  |some (.mref b)=>match ev env k with
   |some (.t (.int kk n))=>match ev env v with
    |some y=>match Ahx σ b kk n y with
     |some σ'=>some (.t .undef,env,σ')
     |none=>none
    |none=>none
   |_=>none
  |_=>none
 |none=>none
def WG (c:Cfg) (o:Oper) (env:Env) (σ:St):Option (AV×Env×St):=
 match o.op with
 |.makeMap t r=>match r with
  |none=>match o.dst with
   |some d=>DF (2*d) env σ (fun env σ=>some (.mref (2*d),env,(2*d,.mp [] [])::σ))
   |none=>none
  |some _=>none
 |.insert t m k v=>PU c.te t m k v env σ
 |.mapUpdate t m k v=>PU c.te t m k v env σ
 |.lookup t m k ok=>match WH c.te t with
  |some et=>match ev env k with
   |some (.t (.int kk n))=>match ev env m with
    |some (.mref b)=>match look σ b with
     |some (.mp ks xs)=>match PV c.te et ok kk n ks xs with
      |some y=>some (y,env,σ)
      |none=>none
     |_=>none
    |some (.t .nilMap)=>match PV c.te et ok kk n [] []with
     |some y=>some (y,env,σ)
     |none=>none
    |_=>none
   |_=>none
  |none=>none
 |.call cl=>match cl.callee with
  |.builtin .len=>match cl.args.toList with
   |[m]=>match cl.argTypes.toList with
    |t::_=>match look c.te t with
     |some ⟨_,_,_,.map _ _⟩=>match ev env m with
      |some (.mref b)=>match look σ b with
       |some (.mp ks _)=>some (.t (.int .i64 (ks.length:Int)),env,σ)
       |_=>none
      |some (.t .nilMap)=>some (.t (.int .i64 0),env,σ)
      |_=>none
     |_=>none
    |_=>none
   |_=>none
  |.builtin .delete=>match cl.args.toList with
   |[m,k]=>match cl.argTypes.toList with
    |t::_=>match WH c.te t with
     |some _=>match ev env m with
      |some (.mref b)=>match ev env k with
       |some (.t (.int kk n))=>match Ahy σ b kk n with
        |some σ'=>some (.tuple [],env,σ')
        |none=>none
       |_=>none
      |_=>none
     |none=>none
    |_=>none
   |_=>none
  |_=>none
 |_=>none
end Go.Am
namespace Go.Am
theorem MN {w:World} {M:Nat->Nat->Prop} {v:Value} {x:T} (h:RelT w M v x) (h1:CK x=true):v.oneCell'=true/\v.cells= #[v]:=by
 cases h<;>simp[CK]at h1<;>simp[Value.oneCell',Value.cells]
theorem W9 {w:World} {g:G} {v:Value} {x:AV} (h:Rel w g v x) (h1:S5 x=true):v.oneCell'=true/\v.cells= #[v]:=by
 cases h with
 |t v x h=>exact MN h h1
 |top=>simp[S5]at h1
 |agg=>simp[S5]at h1
 |tuple=>simp[S5]at h1
 |_=>simp[Value.oneCell',Value.cells]
theorem BV: ∀(ts:List T) (i:Nat),(Ah ts)[i]?=(ts[i]?).map AV.t
 |[],i=>by simp[Ah]
 |x::r,0=>by simp[Ah]
 |x::r,i+1=>by simp[Ah,BV r i]
theorem AU: ∀(ts:List T),(Ah ts).length=ts.length
 |[]=>rfl
 |x::r=>by simp[Ah,AU r]
theorem H9: ∀{l:List AV},D5 l=true-> ∀(i:Nat) x,l[i]?=some x->S5 x=true
 |[],_,i,x,h=>by simp at h
 |y::r,hf,i,x,h=>by
  simp only[D5,Bool.and_eq_true]at hf
  cases i with
  |zero=>simp at h;subst h;exact hf.1
  |succ i=>simp at h;exact H9 hf.2 i x h
theorem Bt.one {w:World} {g:G} {vs:List Value} {xs:List AV} (h:Bt w g vs xs) (ho:D5 xs=true): ∀v∈vs,v.oneCell'=true:=by
 intro v hv
 obtain⟨i,hi,rfl⟩:=List.getElem_of_mem hv
 have hx:i<xs.length:=by rw[<-h.1];exact hi
 exact(W9 (h.2 i _ _ (List.getElem?_eq_getElem hi) (List.getElem?_eq_getElem hx)) (H9 ho i _ (List.getElem?_eq_getElem hx))).1
theorem Jz {w:World} {g:G} {v:Value} {x:AV} {cs:List AV} (h:Rel w g v x) (hc:J0 x=some cs):
  Bt w g v.cells.toList cs/\D5 cs=true:=by
 unfold J0 at hc
 split at hc
 ·rename_i ds
  cases ho:D5 ds with
  |false=>rw[ho]at hc;simp at hc
  |true=>
   rw[ho]at hc;simp at hc;subst hc
   cases h with
   |agg vs _ hl hr=>exact⟨(⟨hl,hr⟩:Bt w g vs ds),ho⟩
 ·rename_i ts
  cases ho:D5 (Ah ts)with
  |false=>rw[ho]at hc;simp at hc
  |true=>
   rw[ho]at hc;simp at hc;subst hc
   cases Aw h with
   |agg vs _ hl hr=>
    refine⟨⟨by simp[Value.cells,AU,hl],fun i u y hu hy=>?_⟩,ho⟩
    rw[BV]at hy
    cases ht:ts[i]? with
    |none=>simp[ht]at hy
    |some z=>
     simp[ht]at hy;subst hy
     simp[Value.cells]at hu
     exact .t _ _ (hr i u z hu ht)
 ·cases ho:S5 x with
  |false=>rw[ho]at hc;simp at hc
  |true=>
   rw[ho]at hc;simp at hc;subst hc
   have h1:=W9 h ho
   rw[h1.2]
   refine⟨⟨rfl,fun i u y hu hy=>?_⟩,by simp[D5,ho]⟩
   cases i with
   |zero=>simp at hu hy;subst hu;subst hy;exact h
   |succ i=>simp at hu
theorem Bt.mono {w w':World} {g g':G} {vs:List Value} {xs:List AV} (h:Bt w g vs xs) (hr: ∀v x,Rel w g v x->Rel w' g' v x):Bt w' g' vs xs:=
 ⟨h.1,fun i v x hv hx=>hr _ _ (h.2 i v x hv hx)⟩
theorem AK.mono {w w':World} {g g':G} {a:Act} {env:Env} (h:AK w g a env) (hr: ∀v x,Rel w g v x->Rel w' g' v x):AK w' g' a env:=
 fun t x hx=>hr _ _ (h t x hx)
def ER (w:World) (g:G) (a:Act) (x:AV) (env:Env) (σ:St) (v:Value) (w':World):Prop:=
 ∃g',Ext w g w' g'/\Rel w' g' v x/\Inv w' g' σ/\AK w' g' a env
theorem Gj {w:World} {g:G} {σ:St} {R:Type} {lab:Nat} {env:Env} {k:Env->St->Option R} {r:R} (h:DF (2*lab) env σ k=some r) (hi:Inv w g σ) {a:Act} (he:AK w g a env):
  ∃env1 σ1 g1,k env1 σ1=some r/\look σ1 (2*lab)=none/\Ext w g w g1/\Inv w g1 σ1/\AK w g1 a env1:=by
 unfold DF at h
 split at h
 ·rename_i hl
  exact⟨env,σ,g,h,hl,A1t _ _,hi,he⟩
 ·obtain⟨h1,h2,h3⟩:=Ad2 hi (2*lab) (fun hb=>by have:=(hi.bx _ hb).1;omega)
  exact⟨_,_,_,h,by rw[DD];simp,h1,h2,h3 a env he⟩
theorem ER.lift {w w':World} {g g1:G} {a:Act} {x:AV} {env:Env} {σ:St} {v:Value} (h1:Ext w g w g1) (h:ER w g1 a x env σ v w'):ER w g a x env σ v w':=by
 obtain⟨g',h2,h3⟩:=h
 exact⟨g',h1.trans h2,h3⟩
theorem SO {w w':World} {g:G} {lab e:Nat} {vs:Array Value} {cs:List AV} (hm:More w w' (.cells vs e (0,0))) (hr:Bt w g vs.toList cs)
  (hmono: ∀v x,Rel w g v x->Rel w' (g.with lab (some w.heap.size)) v x):Fc w' (g.with lab (some w.heap.size)) lab (.cells cs):=by
 refine⟨w.heap.size,vs,e,by simp[G.with],.inr rfl,hm.new,by rw[<-hr.1];simp,fun i v x hv hx=>hmono _ _ (hr.2 i v x ?_ hx)⟩
 rw[Array.getElem?_toList];exact hv
theorem Un {P:Program} {w:World} {g:G} {σ:St} {a:Act} {env:Env} {o:Oper} {lab e:Nat} {u:Value} {cs:List AV} (hi:Inv w g σ) (he:AK w g a env) (hl:look σ lab=none)
  (hc:Bt w g u.cells.toList cs) (hrun:(execOp a.eval o).run P w=.ok (.value (.pointer (some ⟨w.heap.size,0,none⟩))) (w.alloc (.cells u.cells e))):
  BJ P o a w (ER w g a (.ref lab 0) env ((lab,.cells cs)::σ)):=by
 have hm:=More.alloc w (.cells u.cells e)
 obtain⟨h1,h2,h3⟩:=KS hi hl hm (B:=.cells cs) (fun hr=>SO hm hc hr)
 exact BJ.value hrun ⟨_,h1,.ref _ _ _ (by simp[G.with]),h2,he.mono h3⟩
theorem DM {P:Program} {w:World} {g:G} {t:Nat} {ti:TI} (h:TeOk1 P t ti):Bt w g (BZ ti).cells.toList (Ah ti.zero):=by
 have hc: ∀(i:Nat) x,ti.zero[i]?=some x->GB x=true:=by
  intro i x hx
  have:=h.const
  rw[List.all_eq_true]at this
  exact this x (List.mem_of_getElem? hx)
 unfold BZ
 cases ha:ti.kind.agg with
 |true=>
  simp only[cond_true,Value.cells]
  refine⟨by simp[AU],fun i v x hv hx=>?_⟩
  rw[BV]at hx
  simp only[List.getElem?_map]at hv
  cases hz:ti.zero[i]? with
  |none=>simp[hz]at hx
  |some z=>
   simp[hz]at hv hx
   subst hv;subst hx
   exact .t _ _ (LV (hc i z hz))
 |false=>
  simp only[cond_false]
  have h1:=h.one ha
  have hlen:=h.len
  rw[h1]at hlen
  match hz:ti.zero,hlen with
  |[z],_=>
   have hcz:=hc 0 z (by rw[hz];rfl)
   simp only[List.headD]
   have:(Ys z).cells= #[Ys z]:=by cases z<;>simp[GB]at hcz<;>simp[Ys,Value.cells,undef]
   rw[this]
   refine⟨rfl,fun i v x hv hx=>?_⟩
   cases i with
   |zero=>simp[Ah]at hv hx;subst hv;subst hx;exact .t _ _ (LV hcz)
   |succ i=>simp at hv
theorem NY {w:World} {g:G} {σ:St} (hi:Inv w g σ) {b:Nat} {cs:List AV} (hl:look σ b=some (.cells cs)):
  ∃blk vs e,g.β b=some (some blk)/\w.heap[blk]?=some (.cells vs e (0,0))/\Bt w g vs.toList cs:=by
 obtain⟨blk,vs,e,h1,_,h3,h4,h5⟩:=hi.ok b _ hl
 exact⟨blk,vs,e,h1,h3,by simp[h4],fun i v x hv hx=>h5 i v x (by rw[<-Array.getElem?_toList];exact hv) hx⟩
theorem EH {w:World} {blk:Nat} {vs:Array Value} {e:TypeId} {fr:Nat×Nat} (h:w.heap[blk]?=some (.cells vs e fr)) (i:Nat):w.cell? ⟨blk,i,none⟩=vs[i]?:=by
 simp[World.cell?,h]
theorem HM {P:Program} {te:TE} (hte:CX P te) {w:World} {t:Nat} {ti:TI} (hl:look te t=some ti) {b off:Nat} {vs:List Value} (hn:vs.length=ti.size)
  (hc: ∀(i:Nat) v,vs[i]?=some v->w.cell? ⟨b,off+i,none⟩=some v):
  (loadVar t ⟨b,off,none⟩).run P w=.ok (if ti.kind.agg then .agg vs.toArray else vs.headD undef) w:=by
 have hag:=Ta (hte _ _ hl) w
 have hsz:=BT (hte _ _ hl) w
 cases ha:ti.kind.agg with
 |true=>
  have:=run_loadCells_list (P:=P) w ⟨b,off,none⟩ vs (fun j v hv=>by rw[BO];exact hc j v hv)
  rw[hn]at this
  simp[loadVar,hag,ha,hsz,this]
 |false=>
  have h1:=(hte _ _ hl).one ha
  rw[h1]at hn
  match vs,hn with
  |[v],_=>
   have:=hc 0 v rfl
   simp at this
   simp[loadVar,hag,ha,this]
section
variable {P:Program} {te:TE} {w:World} {g:G} {σ:St}
theorem AW {α:Type} {l:List α} {i:Nat} {x:α} (h:l[i]?=some x):i<l.length:=by
 rcases Nat.lt_or_ge i l.length with h'|h'
 ·exact h'
 ·rw[List.getElem?_eq_none h']at h;simp at h
theorem Ak5 {vs:List Value} {cs:List AV} (hr:Bt w g vs cs) {off n:Nat} {ys:List AV} (hy:ED n (cs.drop off)=some ys):
  ∃us:List Value,us.length=n/\Bt w g us ys/\ ∀(i:Nat) v,us[i]?=some v->vs[off+i]?=some v:=by
 obtain⟨e1,e2⟩:=Im hy
 refine⟨(vs.drop off).take n,?_,⟨?_,?_⟩,?_⟩
 ·subst e1;simp only[List.length_take,List.length_drop]at e2⊢;have:=hr.1;omega
 ·subst e1;simp only[List.length_take,List.length_drop]at e2⊢;have:=hr.1;omega
 ·intro i v x hv hx
  subst e1
  rw[List.getElem?_take]at hv hx
  split at hv
  ·rename_i hi
   rw[if_pos hi]at hx
   rw[List.getElem?_drop]at hv hx
   exact hr.2 _ v x hv hx
  ·simp at hv
 ·intro i v hv
  rw[List.getElem?_take]at hv
  split at hv
  ·rw[List.getElem?_drop]at hv;exact hv
  ·simp at hv
theorem GR {us:List Value} {ts:List T} (hl:us.length=ts.length) (h: ∀(i:Nat) v x,us[i]?=some v->ts[i]?=some x->RelT w g.M v x):Bt w g us (Ah ts):=by
 refine⟨by rw[AU];exact hl,fun i v x hv hx=>?_⟩
 rw[BV]at hx
 cases ht:ts[i]? with
 |none=>simp[ht]at hx
 |some z=>simp[ht]at hx;subst hx;exact .t _ _ (h i v z hv ht)
theorem Il {ts:List T} {b off:Nat} {M:Nat->Nat->Prop} (h: ∀(i:Nat) x,ts[i]?=some x-> ∃u,w.cell? ⟨b,off+i,none⟩=some u/\RelT w M u x):
  ∃us:List Value,us.length=ts.length/\(∀(i:Nat) v,us[i]?=some v->w.cell? ⟨b,off+i,none⟩=some v)/\ ∀(i:Nat) v x,us[i]?=some v->ts[i]?=some x->RelT w M v x:=by
 refine⟨(List.range ts.length).map fun i=>(w.cell? ⟨b,off+i,none⟩).getD undef,by simp,?_,?_⟩
 ·intro i v hv
  rw[List.getElem?_map]at hv
  cases hi:(List.range ts.length)[i]? with
  |none=>simp[hi]at hv
  |some j=>
   have hlt:=AW hi
   simp at hlt
   rw[List.getElem?_range hlt]at hi
   simp at hi;subst hi
   obtain⟨u,hu,_⟩:=h i _ (List.getElem?_eq_getElem hlt)
   rw[List.getElem?_range hlt]at hv
   simp[hu]at hv;subst hv;exact hu
 ·intro i v x hv hx
  have hlt:=AW hx
  obtain⟨u,hu,hr⟩:=h i x hx
  rw[List.getElem?_map,List.getElem?_range hlt]at hv
  simp[hu]at hv;subst hv;exact hr
theorem R9 (hte:CX P te) (hi:Inv w g σ) {t:Nat} {u:Value} {p x:AV} (hp:Rel w g u p) (h:I4 te t p σ=some x):
  ∃v,(Instr.loadAt t u).run P w=.ok v w/\Rel w g v x:=by
 unfold I4 at h
 split at h
 ·rename_i ti hl
  have hone:=(hte _ _ hl).one
  split at h
  ·rename_i b off
   cases hp with
   |ref _ _ blk hb=>
    split at h
    ·rename_i cs hs
     obtain⟨blk',vs,e,h1,h2,h3⟩:=NY hi hs
     rw[h1]at hb;cases hb
     have fin: ∀ys,ED ti.size (cs.drop off)=some ys-> ∃us:List Value,us.length=ti.size/\Bt w g us ys/\(loadVar t ⟨blk,off,none⟩).run P w=.ok (if ti.kind.agg then .agg us.toArray else us.headD undef) w:=by
      intro ys hy
      obtain⟨us,u1,u2,u3⟩:=Ak5 h3 hy
      refine⟨us,u1,u2,HM hte hl u1 (fun i v hv=>?_)⟩
      rw[EH h2,<-Array.getElem?_toList];exact u3 i v hv
     split at h
     ·rename_i ha
      split at h
      ·rename_i ys hy
       simp at h;subst h
       obtain⟨us,u1,u2,u3⟩:=fin ys hy
       rw[ha]at u3
       exact⟨_,by simpa[Instr.loadAt,Instr.sureAddr]using u3,.agg us ys u2.1 u2.2⟩
      ·simp at h
     ·rename_i ha
      have hsz:=hone ha
      have hlt:=AW h
      have hy:ED ti.size (cs.drop off)=some [x]:=by
       rw[hsz,List.drop_eq_getElem_cons hlt]
       rw[List.getElem?_eq_getElem hlt]at h
       simp at h
       simp[ED,h]
      obtain⟨us,u1,u2,u3⟩:=fin [x] hy
      rw[ha]at u3
      rw[hsz]at u1
      match us,u1 with
      |[v],_=>
       exact⟨v,by simpa[Instr.loadAt,Instr.sureAddr]using u3,u2.2 0 v x rfl rfl⟩
    ·simp at h
  ·rename_i b sz k off
   cases hp with
   |eref _ _ _ _ blk hb=>
    split at h
    ·rename_i sz' es hs
     split at h
     ·rename_i hsz'
      subst hsz'
      split at h
      ·rename_i e he
       have hok:=hi.ok b _ hs
       obtain⟨hall,hok⟩:=hok
       rcases hok with⟨hn,rfl⟩|⟨blk',vs,e',h1,h2,h3,h4,h5⟩
       ·simp at he
       ·rw[h1]at hb;cases hb
        have hcells: ∀(i:Nat) y,(e.drop off)[i]?=some y-> ∃u,w.cell? ⟨blk,k*sz+off+i,none⟩=some u/\RelT w g.M u y:=by
         intro i y hy
         rw[List.getElem?_drop]at hy
         have hfl:=N0 sz es hall k e he _ y hy
         have hlt:=AW hfl
         have hv: ∃v,vs[k*sz+(off+i)]?=some v:=⟨vs[k*sz+(off+i)]' Aa,Array.getElem?_eq_getElem _⟩
         obtain⟨v,hv⟩:=hv
         refine⟨v,?_,(h5 _ v y hv hfl).2⟩
         rw[EH h3,Nat.add_assoc];exact hv
        have fin: ∀ys,ED ti.size (e.drop off)=some ys-> ∃us:List Value,us.length=ti.size/\Bt w g us (Ah ys)/\(loadVar t ⟨blk,k*sz+off,none⟩).run P w=.ok (if ti.kind.agg then .agg us.toArray else us.headD undef) w:=by
         intro ys hy
         obtain⟨e1,e2⟩:=Im hy
         obtain⟨us,u1,u2,u3⟩:=Il (w:=w) (ts:=ys) (b:=blk) (off:=k*sz+off) (M:=g.M) (fun i y hy=>hcells i y (by
          subst e1;rw[List.getElem?_take]at hy;split at hy
          ·exact hy
          ·simp at hy))
         exact⟨us,by rw[u1,e2],GR u1 u3,HM hte hl (by rw[u1,e2]) u2⟩
        split at h
        ·rename_i ha
         split at h
         ·rename_i ys hy
          simp at h;subst h
          obtain⟨us,u1,u2,u3⟩:=fin ys hy
          rw[ha]at u3
          exact⟨_,by simpa[Instr.loadAt,Instr.sureAddr]using u3,.agg us _ u2.1 u2.2⟩
         ·simp at h
        ·rename_i ha
         have hsz:=hone ha
         split at h
         ·rename_i y hy
          simp at h;subst h
          have hlt:=AW hy
          have hy':ED ti.size (e.drop off)=some [y]:=by
           rw[hsz,List.drop_eq_getElem_cons hlt]
           rw[List.getElem?_eq_getElem hlt]at hy
           simp at hy
           simp[ED,hy]
          obtain⟨us,u1,u2,u3⟩:=fin [y] hy'
          rw[ha]at u3
          rw[hsz]at u1
          match us,u1 with
          |[v],_=>exact⟨v,by simpa[Instr.loadAt,Instr.sureAddr]using u3,u2.2 0 v _ rfl rfl⟩
         ·simp at h
      ·simp at h
     ·simp at h
    ·simp at h
  ·rename_i cs
   obtain⟨b,off,rfl,hc⟩:=FO (Aw hp)
   have fin: ∀ys,ED ti.size cs=some ys-> ∃us:List Value,us.length=ti.size/\Bt w g us (Ah ys)/\(loadVar t ⟨b,off,none⟩).run P w=.ok (if ti.kind.agg then .agg us.toArray else us.headD undef) w:=by
    intro ys hy
    obtain⟨e1,e2⟩:=Im hy
    obtain⟨us,u1,u2,u3⟩:=Il (w:=w) (ts:=ys) (b:=b) (off:=off) (M:=g.M) (fun i y hy=>(hc i y (by
     subst e1;rw[List.getElem?_take]at hy;split at hy
     ·exact hy
     ·simp at hy)).2.2)
    exact⟨us,by rw[u1,e2],GR u1 u3,HM hte hl (by rw[u1,e2]) u2⟩
   split at h
   ·rename_i ha
    split at h
    ·rename_i ys hy
     simp at h;subst h
     obtain⟨us,u1,u2,u3⟩:=fin ys hy
     rw[ha]at u3
     exact⟨_,by simpa[Instr.loadAt,Instr.sureAddr]using u3,.agg us _ u2.1 u2.2⟩
    ·simp at h
   ·rename_i ha
    have hsz:=hone ha
    split at h
    ·rename_i y r
     simp at h;subst h
     obtain⟨us,u1,u2,u3⟩:=fin [y] (by rw[hsz];simp[ED])
     rw[ha]at u3
     rw[hsz]at u1
     match us,u1 with
     |[v],_=>exact⟨v,by simpa[Instr.loadAt,Instr.sureAddr]using u3,u2.2 0 v _ rfl rfl⟩
    ·simp at h
  ·simp at h
 ·simp at h
end
end Go.Am
namespace Go.Am
section
variable {P:Program} {te:TE} {w:World} {g:G} {σ:St}
theorem FW {α:Type} (cs:List α) (off:Nat) (new:List α) (h:off+new.length<=cs.length):(EL cs off new).length=cs.length:=by
 simp[EL];omega
theorem QD {α β:Type} (R:α->β->Prop) {vs:List α} {cs:List β} {us:List α} {ys:List β} {off:Nat} (hl:vs.length=cs.length) (hu:us.length=ys.length) (ho:off+us.length<=vs.length)
  (h1: ∀(i:Nat) v x,vs[i]?=some v->cs[i]?=some x->R v x) (h2: ∀(i:Nat) v x,us[i]?=some v->ys[i]?=some x->R v x):
  ∀(i:Nat) v x,(vs.take off++us++vs.drop (off+us.length))[i]?=some v->(EL cs off ys)[i]?=some x->R v x:=by
 intro i v x hv hx
 unfold EL at hx
 rw[List.append_assoc]at hv
 have hlo:(vs.take off).length=off:=by simp;omega
 have hlo':(cs.take off).length=off:=by simp;omega
 by_cases c1:i<off
 ·rw[List.getElem?_append_left Aa,List.getElem?_take,if_pos c1]at hv
  rw[List.getElem?_append_left Aa,List.getElem?_take,if_pos c1]at hx
  exact h1 i v x hv hx
 ·rw[List.getElem?_append_right Aa,hlo]at hv
  rw[List.getElem?_append_right Aa,hlo']at hx
  by_cases c2:i-off<us.length
  ·rw[List.getElem?_append_left c2]at hv
   rw[List.getElem?_append_left Aa]at hx
   exact h2 _ v x hv hx
  ·rw[List.getElem?_append_right Aa,List.getElem?_drop]at hv
   rw[List.getElem?_append_right Aa,List.getElem?_drop]at hx
   rw[show off+us.length+(i-off-us.length)=i by omega]at hv
   rw[show off+ys.length+(i-off-ys.length)=i by omega]at hx
   exact h1 i v x hv hx
theorem My (hte:CX P te) {t:Nat} {ti:TI} (hl:look te t=some ti) {blk off:Nat} {e:TypeId} {vs:Array Value} (hh:w.heap[blk]?=some (.cells vs e (0,0))) {u:Value}
  (hn:u.cells.size=ti.size) (hone: ∀v∈u.cells.toList,v.oneCell'=true) (ho:off+ti.size<=vs.size):
  (storeVar t ⟨blk,off,none⟩ u).run P w=.ok () (w.setRow blk (vs.toList.take off++u.cells.toList++vs.toList.drop (off+u.cells.toList.length)).toArray):=by
 have hsz:=BT (hte _ _ hl) w
 have hst:=run_storeCells_at P blk off e u.cells.toList 0 vs w hh (by simp[hn];omega) hone
 simp only[Nat.add_zero]at hst
 simp[storeVar,hsz,hn,hst]
theorem VZ {α:Type} (sz:Nat): ∀(es:List (List α)) (k:Nat) (e e':List α),(∀e∈es,e.length=sz)->es[k]?=some e->e'.length=sz->(es.set k e').flatten=EL es.flatten (k*sz) e'
 |[],k,e,e',_,h,_=>by simp at h
 |a::es,0,e,e',hs,h,hl=>by
  simp at h;subst h
  have ha:=hs a Ac
  simp only[List.set_cons_zero,List.flatten_cons,EL,Nat.zero_mul,List.take_zero,List.nil_append,Nat.zero_add]
  rw[show e'.length=a.length by rw[hl,ha]]
  simp
 |a::es,k+1,e,e',hs,h,hl=>by
  simp at h
  have ha:=hs a Ac
  have ih:=VZ sz es k e e' (fun e he=>hs e (by simp[he])) h hl
  simp only[List.set_cons_succ,List.flatten_cons,ih,EL]
  have h1:(k+1)*sz=a.length+k*sz:=by rw[ha,Nat.succ_mul];omega
  rw[h1,List.take_length_add_append,Nat.add_assoc,List.drop_length_add_append]
  simp[List.append_assoc]
theorem Acl {α:Type} (l:List α) (p q:Nat) (new:List α) (e:List α) (he:e=(l.drop p).take e.length) (hq:q+new.length<=e.length) (hp:p+e.length<=l.length):
  EL l p (EL e q new)=EL l (p+q) new:=by
 unfold EL
 have hlen:(e.take q++(new++e.drop (q+new.length))).length=e.length:=by simp;omega
 rw[hlen]
 have h1:l.take (p+q)=l.take p++e.take q:=by
  rw[List.take_add,he,List.take_take,Nat.min_eq_left Aa]
 have h2:l.drop (p+q+new.length)=e.drop (q+new.length)++l.drop (p+e.length):=by
  have:l.drop p=e++l.drop (p+e.length):=by
   have h3:=List.take_append_drop e.length (l.drop p)
   rw[<-he,List.drop_drop]at h3
   exact h3.symm
  rw[show p+q+new.length=p+(q+new.length)by omega,<-List.drop_drop,this,List.drop_append_of_le_length Aa]
 rw[h1,h2]
 simp[List.append_assoc]
theorem IJ {l:List AV} {ts:List T} (h:allT l=some ts):l=Ah ts:=by
 induction l generalizing ts with
 |nil=>simp[allT]at h;subst h;rfl
 |cons x r ih=>
  cases x<;>simp only[allT]at h<;>try(simp at h;done)
  split at h
  ·rename_i zs hz
   simp at h;subst h
   rw[Ah,ih hz]
  ·simp at h
theorem Aj3 {α:Type} (A B:List α) (m i:Nat) (h:i<A.length+m):(A++B.take m)[i]?=(A++B)[i]?:=by
 by_cases c:i<A.length
 ·rw[List.getElem?_append_left c,List.getElem?_append_left c]
 ·rw[List.getElem?_append_right Aa,List.getElem?_append_right Aa,List.getElem?_take,if_pos Aa]
theorem OI (hte:CX P te) (hi:Inv w g σ) {t:Nat} {u v:Value} {p x:AV} {σ':St} (hp:Rel w g u p) (hx:Rel w g v x) (h:EK te t p x σ=some σ'):
  ∃w',(Instr.storeAt t u v).run P w=.ok () w'/\Ext w g w' g/\Inv w' g σ'/\(∀v x,Rel w g v x->Rel w' g v x):=by
 unfold EK at h
 split at h
 ·rename_i ti hl
  split at h
  ·rename_i ys hy
   obtain⟨hcr,hco⟩:=Jz hx hy
   have hone:=hcr.one hco
   split at h
   ·rename_i hlen
    have hsize:v.cells.size=ti.size:=by rw[<-hlen,<-hcr.1];simp
    split at h
    ·rename_i b off
     cases hp with
     |ref _ _ blk hb=>
      split at h
      ·rename_i cs hs
       split at h
       ·rename_i hoff
        simp at h;subst h
        obtain⟨blk',vs,e,h1,h2,h3⟩:=NY hi hs
        rw[h1]at hb;cases hb
        have hvs:vs.size=cs.length:=by rw[<-h3.1];simp
        have hrun:=My (P:=P) hte hl (off:=off) h2 hsize hone Aa
        have hsets:=Sets.setRow h2 (vs.toList.take off++v.cells.toList++vs.toList.drop (off+v.cells.toList.length)).toArray
        obtain⟨k1,k2,k3⟩:=MM hi h1 h2 (by simp;omega) hsets (B:=.cells (EL cs off ys)) (fun _=>⟨_,rfl⟩) (fun hr=>by
         refine⟨blk,_,e,h1,(E9 hi h1).2.1,hsets.new,?_,?_⟩
         ·rw[FW _ _ _ Aa];simp;omega
         ·intro i a y ha hy'
          refine hr _ _ (QD (Rel w g) h3.1 hcr.1 (by simp;omega) h3.2 hcr.2 i a y ?_ hy')
          simpa using ha)
        exact⟨_,by simp[Instr.storeAt,Instr.sureAddr,hrun],k1,k2,k3⟩
       ·simp at h
      ·simp at h
    ·rename_i b sz k off
     cases hp with
     |eref _ _ _ _ blk hb=>
      split at h
      ·rename_i sz' es hs
       split at h
       ·rename_i hsz'
        subst hsz'
        split at h
        ·rename_i e he
         split at h
         ·rename_i ts hts
          split at h
          ·rename_i hoff
           simp at h;subst h
           obtain⟨hall,hok⟩:=hi.ok b _ hs
           rcases hok with⟨hn,rfl⟩|⟨blk',vs,e',h1,h2,h3,h4,h5⟩
           ·simp at he
           ·rw[h1]at hb;cases hb
            have helen:e.length=sz:=hall e (List.mem_of_getElem? he)
            obtain⟨t1,t2⟩:=hcr.allT hts
            have htl:ts.length=ti.size:=by rw[<-t1];simpa using hsize
            have hklt:=AW he
            have hfl:=Dg sz es hall
            have hks:k*sz+sz<=es.flatten.length:=by
             rw[hfl,<-Nat.succ_mul];exact Nat.mul_le_mul_right _ hklt
            have heq:e=(es.flatten.drop (k*sz)).take e.length:=by
             apply List.ext_getElem?
             intro j
             rw[List.getElem?_take,List.getElem?_drop]
             split
             ·rename_i hj
              rw[N0 sz es hall k e he j e[j] (List.getElem?_eq_getElem hj),List.getElem?_eq_getElem hj]
             ·rename_i hj
              rw[List.getElem?_eq_none Aa]
            have hset:(es.set k (EL e off ts)).flatten=EL es.flatten (k*sz+off) ts:=by
             rw[VZ sz es k e _ hall he (by rw[FW _ _ _ Aa,helen]),Acl _ _ _ _ _ heq Aa Aa]
            have hrun:=My (P:=P) hte hl (off:=k*sz+off) h3 hsize hone Aa
            have hsets:=Sets.setRow h3 (vs.toList.take (k*sz+off)++v.cells.toList++vs.toList.drop (k*sz+off+v.cells.toList.length)).toArray
            have hall': ∀e0∈es.set k (EL e off ts),e0.length=sz:=by
             intro e0 h0
             rcases List.mem_or_eq_of_mem_set h0 with h0|h0
             ·exact hall e0 h0
             ·rw[h0,FW _ _ _ Aa,helen]
            have hones: ∀(i:Nat) z,ts[i]?=some z->CK z=true:=by
             intro i z hz
             have:=H9 hco i (.t z) (by rw[IJ hts,BV,hz];rfl)
             exact this
            obtain⟨k1,k2,k3⟩:=MM hi h1 h3 (by simp;omega) hsets (B:=.grow sz (es.set k (EL e off ts))) (fun⟨_,hc⟩=>by rw[hs]at hc;cases hc) (fun hr=>by
             refine⟨hall',.inr ⟨blk,_,e',h1,h2,hsets.new,?_,?_⟩⟩
             ·rw[hset,FW _ _ _ Aa];simp only[List.length_take,List.length_append,List.length_drop,List.size_toArray,Array.length_toList];omega
             ·intro i a y ha hy'
              rw[hset]at hy'
              have hpre: ∀(i:Nat) a y,(vs.toList.take es.flatten.length)[i]?=some a->es.flatten[i]?=some y->CK y=true/\RelT w g.M a y:=by
               intro i a y ha hy
               rw[List.getElem?_take]at ha
               split at ha
               ·exact h5 i a y (by rw[<-Array.getElem?_toList];exact ha) hy
               ·simp at ha
              have:=QD (fun a y=>CK y=true/\RelT w g.M a y) (vs:=vs.toList.take es.flatten.length) (cs:=es.flatten) (us:=v.cells.toList) (ys:=ts) (off:=k*sz+off) (by simp only[List.length_take,List.length_append,List.length_drop,List.size_toArray,Array.length_toList];omega) t1 (by simp only[List.length_take,List.length_append,List.length_drop,List.size_toArray,Array.length_toList];omega) hpre (fun i a y ha hy=>⟨hones i y hy,t2 i a y ha hy⟩) i a y (by
               have hlt:=AW hy'
               rw[FW _ _ _ Aa]at hlt
               have e1:(vs.toList.take es.flatten.length).take (k*sz+off)=vs.toList.take (k*sz+off):=by rw[List.take_take,Nat.min_eq_left Aa]
               have e2:(vs.toList.take es.flatten.length).drop (k*sz+off+v.cells.toList.length)=(vs.toList.drop (k*sz+off+v.cells.toList.length)).take (es.flatten.length-(k*sz+off+v.cells.toList.length)):=by rw[List.drop_take]
               rw[e1,e2]
               have ha':(vs.toList.take (k*sz+off)++v.cells.toList++vs.toList.drop (k*sz+off+v.cells.toList.length))[i]?=some a:=by simpa using ha
               rw[<-ha']
               have hpl:(vs.toList.take (k*sz+off)++v.cells.toList).length=k*sz+off+v.cells.toList.length:=by simp;omega
               exact Aj3 _ _ _ i (by rw[hpl];omega)) hy'
              exact⟨this.1,Aw (hr _ _ (.t _ _ this.2))⟩)
            exact⟨_,by simp[Instr.storeAt,Instr.sureAddr,hrun],k1,k2,k3⟩
          ·simp at h
         ·simp at h
        ·simp at h
       ·simp at h
      ·simp at h
    ·simp at h
   ·simp at h
  ·simp at h
 ·simp at h
end
end Go.Am
namespace Go.Am
section
variable {P:Program} {te:TE} {w:World} {g:G} {σ:St}
theorem Xq: ∀(l:List Value) (k off:Nat) (cells:Array Value),off+k+l.length<=cells.size->
  (l.zipIdx k).foldl (fun cs (p:Value×Nat)=>cs.setIfInBounds (off+p.2) p.1) cells=(cells.toList.take (off+k)++l++cells.toList.drop (off+k+l.length)).toArray
 |[],k,off,cells,_=>by simp
 |v::r,k,off,cells,h=>by
  simp only[List.length_cons]at h
  simp only[List.zipIdx_cons,List.foldl_cons]
  rw[Xq r (k+1) off (cells.setIfInBounds (off+k) v) (by simp;omega)]
  congr 1
  have:=list_seg_step cells.toList (off+k) v r (by simp;omega)
  simp only[Array.toList_setIfInBounds]
  rw[show off+(k+1)=off+k+1 by omega]
  simpa using this
theorem IC (place:Nat->Option (Nat×Nat)): ∀{ps:List (Nat×AV)} {vs:List (Nat×Value)} {cs cs':List AV} {cells:Array Value},F3 place ps cs=some cs'->Bt w g cells.toList cs->
  (vs.length=ps.length/\ ∀(i:Nat) a b,vs[i]?=some a->ps[i]?=some b->a.1=b.1/\Rel w g a.2 b.2)-> ∃cells',Instr.fill place cells vs=some cells'/\Bt w g cells'.toList cs'
 |[],vs,cs,cs',cells,h,hr,⟨hl,_⟩=>by
  have:vs=[]:=List.eq_nil_of_length_eq_zero hl
  subst this
  simp[F3]at h;subst h
  exact⟨cells,rfl,hr⟩
 |(i,x)::r,[],cs,cs',cells,h,hr,⟨hl,_⟩=>by simp at hl
 |(i,x)::r,(j,v)::vr,cs,cs',cells,h,hr,⟨hl,hp⟩=>by
  obtain⟨hij,hvx⟩:=hp 0 _ _ rfl rfl
  simp only at hij hvx
  subst hij
  simp only[F3]at h
  split at h
  ·rename_i off size hplace
   split at h
   ·rename_i ys hy
    split at h
    ·rename_i hlen
     split at h
     ·rename_i hoff
      obtain⟨hcr,hco⟩:=Jz hvx hy
      have hvs:v.cells.size=size:=by rw[<-hlen,<-hcr.1];simp
      have hcl:cells.size=cs.length:=by rw[<-hr.1];simp
      have hfold:v.cells.zipIdx.foldl (fun cs (p:Value×Nat)=>cs.setIfInBounds (off+p.2) p.1) cells=(cells.toList.take off++v.cells.toList++cells.toList.drop (off+v.cells.toList.length)).toArray:=by
       have:=Xq v.cells.toList 0 off cells (by simp;omega)
       rw[<-Array.foldl_toList,Array.toList_zipIdx]
       simpa using this
      have hr':Bt w g (cells.toList.take off++v.cells.toList++cells.toList.drop (off+v.cells.toList.length)) (EL cs off ys):=by
       refine⟨?_,QD (Rel w g) hr.1 hcr.1 (by simp;omega) hr.2 hcr.2⟩
       rw[FW _ _ _ Aa];simp;omega
      obtain⟨cells',f1,f2⟩:=IC place (cells:=(cells.toList.take off++v.cells.toList++cells.toList.drop (off+v.cells.toList.length)).toArray) h (by simpa using hr') (vs:=vr) ⟨by simpa using hl,fun i a b ha hb=>hp (i+1) a b (by simpa using ha) (by simpa using hb)⟩
      refine⟨cells',?_,f2⟩
      have hcond: ¬((v.cells.size≠size||off+v.cells.size>cells.size)=true):=by simp[hvs];omega
      simp only[Instr.fill,hplace]
      rw[if_neg hcond]
      rw[<-f1,hfold]
     ·simp at h
    ·simp at h
   ·simp at h
  ·simp at h
theorem Jt {a:Act} {env:Env} (he:AK w g a env): ∀{l:List (Nat×Operand)} {ps:List (Nat×AV)},evP env l=some ps->
  (l.map fun p=>(p.1,a.eval p.2)).length=ps.length/\ ∀(i:Nat) c b,(l.map fun p=>(p.1,a.eval p.2))[i]?=some c->ps[i]?=some b->c.1=b.1/\Rel w g c.2 b.2
 |[],ps,h=>by simp[evP]at h;subst h;simp
 |(k,x)::r,ps,h=>by
  simp only[evP]at h
  split at h
  ·rename_i y hy
   split at h
   ·rename_i ys hys
    simp at h;subst h
    obtain⟨h1,h2⟩:=Jt he hys
    refine⟨by simpa using h1,fun i c b hc hb=>?_⟩
    cases i with
    |zero=>simp at hc hb;subst hc;subst hb;exact⟨rfl,AG he hy⟩
    |succ i=>simp only[List.map_cons,List.getElem?_cons_succ]at hc hb;exact h2 i c b hc hb
   ·simp at h
  ·simp at h
theorem R5 (hte:CX P te): ∀(l:List Field) (fs:List (Nat×Nat)),l.map (fun f=>(f.offset,f.type))=fs->KC te fs=true->
  ∃r:List (Nat×Nat),(l.mapM fun f=>do pure (f.offset,<-sizeOf f.type):Sem (List (Nat×Nat))).run P w=.ok r w/\ ∀i,r[i]?=LX te fs i
 |[],fs,h,_=>by simp at h;subst h;exact⟨[],by simp,fun i=>by simp[LX]⟩
 |f::l,fs,h,hk=>by
  simp at h;subst h
  simp only[KC]at hk
  split at hk
  ·rename_i ti hl
   obtain⟨r,h1,h2⟩:=R5 hte l _ rfl hk
   refine⟨(f.offset,ti.size)::r,?_,fun i=>?_⟩
   ·simp only[List.mapM_cons,Sem.run_bind,BT (hte _ _ hl) w,Result.andThen_ok,Sem.run_pure,h1]
   ·cases i with
    |zero=>simp[LX,hl]
    |succ i=>simp only[List.getElem?_cons_succ,h2 i,LX]
  ·simp at hk
theorem XP (hte:CX P te) {a:Act} {env:Env} (he:AK w g a env) {t:Nat} {parts:Array (Nat×Operand)} {x:AV} (h:Mn te t env parts.toList=some x):
  ∃v,(Instr.build t (parts.map fun p=>(p.1,a.eval p.2))).run P w=.ok v w/\Rel w g v x:=by
 unfold Mn at h
 split at h
 ·rename_i ti hl
  split at h
  ·rename_i fs hk
   cases hkn:KC te fs with
   |false=>rw[hkn]at h;simp at h
   |true=>
    rw[hkn]at h
    simp only[cond_true]at h
    split at h
    ·rename_i ps hps
     split at h
     ·rename_i cs hcs
      simp at h;subst h
      have hz:=Do (hte _ _ hl) w
      obtain⟨gs,hd,hg⟩:=IR (hte _ _ hl) w hk
      obtain⟨r,m1,m2⟩:=R5 (w:=w) hte gs.toList fs hg hkn
      have hplace:(fun i=>r.toArray[i]?)=LX te fs:=by funext i;simpa using m2 i
      obtain⟨cells',f1,f2⟩:=IC (LX te fs) hcs (DM (hte _ _ hl)) (Jt he hps)
      have hmap:(gs.mapM fun f=>do pure (f.offset,<-sizeOf f.type):Sem (Array (Nat×Nat))).run P w=.ok r.toArray w:=by
       have:gs=gs.toList.toArray:=by simp
       rw[this,List.mapM_toArray]
       simp only[Sem.run_map,m1,Result.andThen_ok]
      refine⟨.agg cells',?_,?_⟩
      ·have f1':Instr.fill (fun i=>r.toArray[i]?) (BZ ti).cells (parts.map fun p=>(p.1,a.eval p.2)).toList=some cells':=by
        rw[hplace,<-f1];simp
       simp only[Instr.build,Sem.run_bind,hz,Result.andThen_ok,hd,hmap,f1',Sem.run_pure]
      ·have:cells'=cells'.toList.toArray:=by simp
       rw[this];exact .agg _ _ f2.1 f2.2
     ·simp at h
    ·simp at h
  ·rename_i m e hk
   split at h
   ·rename_i ei hle
    split at h
    ·rename_i ps hps
     split at h
     ·rename_i cs hcs
      simp at h;subst h
      have hz:=Do (hte _ _ hl) w
      have hd:=F8 (hte _ _ hl) w hk
      have hsz:=BT (hte _ _ hle) w
      obtain⟨cells',f1,f2⟩:=IC (w:=w) (g:=g) (fun i=>some (i*ei.size,ei.size)) hcs (DM (hte _ _ hl)) (Jt he hps)
      have f1':Instr.fill (fun i=>some (i*ei.size,ei.size)) (BZ ti).cells (parts.map fun p=>(p.1,a.eval p.2)).toList=some cells':=by rw[<-f1];simp
      refine⟨.agg cells',?_,?_⟩
      ·simp only[Instr.build,Sem.run_bind,hz,Result.andThen_ok,hd,hsz,f1',Sem.run_pure]
      ·have:cells'=cells'.toList.toArray:=by simp
       rw[this];exact .agg _ _ f2.1 f2.2
     ·simp at h
    ·simp at h
   ·simp at h
  ·simp at h
 ·simp at h
theorem He {α:Type} (z:List α): ∀n,(MG z n).length=n*z.length
 |0=>by simp[MG]
 |n+1=>by simp[MG,He z n,Nat.succ_mul];omega
theorem QU {α:Type} (z:List α): ∀(n i:Nat),i<n*z.length->(MG z n)[i]?=z[i % z.length]?
 |0,i,h=>by simp at h
 |n+1,i,h=>by
  rw[Nat.succ_mul]at h
  simp only[MG]
  by_cases c:i<z.length
  ·rw[List.getElem?_append_left c,Nat.mod_eq_of_lt c]
  ·rw[List.getElem?_append_right Aa,QU z n (i-z.length) Aa]
   congr 1
   rw[Nat.mod_eq_sub_mod (by omega:i>=z.length)]
theorem Jw {α:Type} (sz:Nat): ∀(n:Nat) (l:List α),l.length=n*sz->(Bq sz n l).flatten=l/\(∀e∈Bq sz n l,e.length=sz)/\(Bq sz n l).length=n
 |0,l,h=>by
  have:l=[]:=List.eq_nil_of_length_eq_zero (by simpa using h)
  subst this;simp[Bq]
 |n+1,l,h=>by
  rw[Nat.succ_mul]at h
  obtain⟨h1,h2,h3⟩:=Jw sz n (l.drop sz) (by simp;omega)
  refine⟨by simp[Bq,h1],?_,by simp[Bq,h3]⟩
  intro e he
  simp only[Bq,List.mem_cons]at he
  rcases he with rfl|he
  ·simp;omega
  ·exact h2 e he
theorem J5: ∀{l:List AV},D5 l=true↔ ∀x∈l,S5 x=true
 |[]=>by simp[D5]
 |x::r=>by simp[D5,J5 (l:=r)]
theorem Xv (place:Nat->Option (Nat×Nat)): ∀{ps:List (Nat×AV)} {cs cs':List AV},F3 place ps cs=some cs'->D5 cs=true->D5 cs'=true
 |[],cs,cs',h,ho=>by simp[F3]at h;subst h;exact ho
 |(i,x)::r,cs,cs',h,ho=>by
  simp only[F3]at h
  split at h
  ·split at h
   ·rename_i ys hy
    split at h
    ·split at h
     ·refine Xv place h ?_
      rw[J5]at ho⊢
      have hys:D5 ys=true:=by
       unfold J0 at hy
       split at hy
       ·rename_i ds;cases hd:D5 ds<;>rw[hd]at hy<;>simp at hy;subst hy;exact hd
       ·rename_i ts;cases hd:D5 (Ah ts)<;>rw[hd]at hy<;>simp at hy;subst hy;exact hd
       ·cases hd:S5 x<;>rw[hd]at hy<;>simp at hy;subst hy;simp[D5,hd]
      rw[J5]at hys
      intro y hy'
      simp only[EL,List.mem_append]at hy'
      rcases hy' with h'|h'|h'
      ·exact ho y (List.mem_of_mem_take h')
      ·exact hys y h'
      ·exact ho y (List.mem_of_mem_drop h')
     ·simp at h
    ·simp at h
   ·simp at h
  ·simp at h
theorem WD {α:Type} {z:List α} {x:α}: ∀{n:Nat},x∈MG z n->x∈z
 |0,h=>by simp[MG]at h
 |n+1,h=>by
  simp only[MG,List.mem_append]at h
  rcases h with h|h
  ·exact h
  ·exact WD h
theorem Aep {x:T} (h:GB x=true):CK x=true:=by cases x<;>simp[GB]at h<;>rfl
theorem T0 {x:AV}: ∀{l:List T},x∈Ah l-> ∃y∈l,x=.t y
 |[],h=>by simp[Ah]at h
 |y::r,h=>by
  simp only[Ah,List.mem_cons]at h
  rcases h with h|h
  ·exact⟨y,by simp,h⟩
  ·obtain⟨z,hz,e⟩:=T0 h;exact⟨z,by simp[hz],e⟩
def Ako (w:World) (g:G) (w':World) (v:Value) (n:Nat) (x:AV):Prop:=
 ∀m sz es,x=.t (.slice m sz es)->0<n->v=.slice (some ⟨w.heap.size,0,none⟩) n n/\es.length=n/\(∀e∈es,e.length=sz)/\
  ∃cells' e,More w w' (.cells cells' e (0,0))/\cells'.size=n*sz/\ ∀(i:Nat) v y,cells'[i]?=some v->es.flatten[i]?=some y->CK y=true/\RelT w g.M v y
theorem IF (hte:CX P te) (hi:Inv w g σ) {a:Act} {env:Env} (he:AK w g a env) {t n:Nat} {parts:Array (Nat×Operand)} {x:AV} (h:DA te t n env parts.toList=some x):
  ∃v w',(Instr.buildSlice t n (parts.map fun p=>(p.1,a.eval p.2))).run P w=.ok v w'/\Ext w g w' g/\Rel w' g v x/\Inv w' g σ/\(∀v x,Rel w g v x->Rel w' g v x)/\Ako w g w' v n x:=by
 unfold DA at h
 split at h
 ·rename_i i1 i2 i3 e hl
  have hu:=F7 (hte _ _ hl) w rfl
  split at h
  ·rename_i ei hei
   have hsz:=BT (hte _ _ hei) w
   have hz:=Do (hte _ _ hei) w
   have hzr:=DM (w:=w) (g:=g) (hte _ _ hei)
   have hzl:=(hte _ _ hei).len
   split at h
   ·rename_i hsmall
    split at h
    ·rename_i ps hps
     split at h
     ·rename_i cs hcs
      split at h
      ·rename_i ts hts
       obtain⟨zc,hzc⟩: ∃zc:Array Value,zc=(if n*ei.size=0 then #[]else(BZ ei).cells):=⟨_,rfl⟩
       have hzero:(if n*ei.size=0 then pure #[]else do pure (<-zeroValue e).cells:Sem (Array Value)).run P w=.ok zc w:=by
        subst hzc;split<;>simp[hz]
       have hzs:(BZ ei).cells.size=ei.size:=by rw[<-hzl,<-AU,<-hzr.1];simp
       have hinit:Bt w g ((Array.range (n*ei.size)).map (zc[· % zc.size]!)).toList (Ah (MG ei.zero n)):=by
        refine⟨by simp[AU,He,hzl],fun i v x hv hx=>?_⟩
        have hlt:i<n*ei.size:=by have:=AW hx;rw[AU,He,hzl]at this;exact this
        have hne:n*ei.size≠0:=by omega
        have hpos:0<ei.size:=by
         rcases Nat.eq_zero_or_pos ei.size with h'|h'
         ·rw[h']at hne;simp at hne
         ·exact h'
        rw[if_neg hne]at hzc
        subst hzc
        rw[BV,QU _ _ _ (by rw[hzl];exact hlt),hzl]at hx
        have hm:i % ei.size<ei.size:=Nat.mod_lt _ hpos
        simp only[Array.toList_map,Array.toList_range,List.getElem?_map,List.getElem?_range hlt,Option.map_some,Option.some.injEq,hzs]at hv
        have hget:(BZ ei).cells.toList[i % ei.size]?=some v:=by
         rw[<-hv,Array.getElem?_toList,getElem!_pos _ _ (by rw[hzs];exact hm),Array.getElem?_eq_getElem (by rw[hzs];exact hm)]
        exact hzr.2 _ v x hget (by rw[BV];exact hx)
       obtain⟨cells',f1,f2⟩:=IC (fun i=>some (i*ei.size,ei.size)) hcs hinit (Jt he hps)
       have hm:=More.alloc w (.cells cells' e)
       obtain⟨k1,k2,k3⟩:=Ez hi hm
       have hcl:cs.length=n*ei.size:=by
        have: ∀(ps:List (Nat×AV)) (cs cs':List AV),F3 (fun i=>some (i*ei.size,ei.size)) ps cs=some cs'->cs'.length=cs.length:=by
         intro ps
         induction ps with
         |nil=>intro cs cs' h;simp[F3]at h;rw[h]
         |cons p r ih=>
          intro cs cs' h
          obtain⟨i,x⟩:=p
          simp only[F3]at h
          split at h
          ·split at h
           ·split at h
            ·rw[ih _ _ h,FW _ _ _ Aa]
            ·simp at h
           ·simp at h
          ·simp at h
        rw[this _ _ _ hcs,AU,He,hzl]
       obtain⟨t1,t2⟩:=f2.allT hts
       have htl:ts.length=n*ei.size:=by rw[<-hcl,IJ hts,AU]
       obtain⟨c1,c2,c3⟩:=Jw ei.size n ts htl
       have hones: ∀(i:Nat) z,ts[i]?=some z->CK z=true:=by
        intro i z hz
        have h0:D5 (Ah (MG ei.zero n))=true:=by
         rw[J5]
         intro y hy
         obtain⟨q,hq,rfl⟩:=T0 hy
         have:=(hte _ _ hei).const
         rw[List.all_eq_true]at this
         exact Aep (this q (WD hq))
        have h1:=Xv _ hcs h0
        exact H9 h1 i (.t z) (by rw[IJ hts,BV,hz];rfl)
       refine⟨.slice (some ⟨w.heap.size,0,none⟩) n n,_,?_,k1,?_,k2,k3,?_⟩
       ·have hsm: ¬(n*ei.size>2^24):=by omega
        have f1':Instr.fill (fun i=>some (i*ei.size,ei.size)) ((Array.range (n*ei.size)).map (zc[· % zc.size]!)) (parts.map fun p=>(p.1,a.eval p.2)).toList=some cells':=by
         rw[<-f1];simp
        simp only[Instr.buildSlice,Sem.run_bind,hu,Result.andThen_ok,hsz]
        rw[if_neg hsm]
        by_cases hn0:n*ei.size=0
        ·rw[if_pos hn0]at hzc⊢
         subst hzc
         simp only[Sem.run_pure,Result.andThen_ok,Sem.run_bind,f1',newRow,newObj,Sem.run]
         rfl
        ·rw[if_neg hn0]at hzc⊢
         subst hzc
         simp only[Sem.run_pure,Result.andThen_ok,hz,Sem.run_bind,f1',newRow,newObj,Sem.run]
         rfl
       ·cases n with
        |zero=>
         simp at h;subst h
         exact .t _ _ (DN rfl (Nat.le_refl _) (fun _=>rfl) Ac Ac Ac)
        |succ n=>
        simp at h;subst h
        refine .t _ _ (DN c3 (Nat.le_refl _) (fun _=>rfl) Ac c2 ?_)
        intro i x hx
        rw[c1]at hx
        have hlt:=AW hx
        have hv: ∃v,cells'.toList[i]?=some v:=⟨cells'.toList[i]'(by rw[t1];exact hlt),List.getElem?_eq_getElem _⟩
        obtain⟨v,hv⟩:=hv
        refine⟨Aia hi _,hones i x hx,v,?_,Aw (k3 _ _ (.t _ _ (t2 i v x hv hx)))⟩
        rw[Nat.zero_add,EH hm.new,<-Array.getElem?_toList];exact hv
       ·intro m' sz' es' hx hpos
        cases n with
        |zero=>omega
        |succ n=>
        simp at h;subst h
        cases hx
        refine⟨rfl,c3,c2,cells',e,hm,by have:=t1;rw[htl]at this;simpa using this,fun i v y hv hy=>?_⟩
        rw[c1]at hy
        exact⟨hones i y hy,t2 i v y (by rw[Array.getElem?_toList];exact hv) hy⟩
      ·simp at h
     ·simp at h
    ·simp at h
   ·simp at h
  ·simp at h
 ·simp at h
end
end Go.Am
