/- The program's facts for the abstract machine. -/
import Derived.Test.YtpdmaenhenfofaaGreatDoorZTe
set_option linter.unusedVariables false
set_option linter.unusedSimpArgs false
namespace Go.Proofs.YtpdmaenhenfofaaGreatDoor
open Go.Am
def Xb (a b:String):String:=(a.push (Char.ofNat 47))++b
def So:String:=Xb "roving" "engine.place"
def Adp:String:=Xb "roving" "engine.log"
def Adq:String:=Xb "roving" "engine.end"
def Xp:String:=Xb "roving" "engine.more"
def Aie (t:Nat) (name:String):Option (Nat×Rc):=
 if t=152 then
  (if name=So then some (264,.self)
  else if name=Adq then some (262,.self)
  else if name=Xp then some (263,.self)
  else if name=Adp then some (245,.fld 0 2)else none)
 else if t=153 then
  (if name=So then some (268,.self)
  else if name=Adq then some (266,.self)
  else if name=Xp then some (267,.self)
  else if name=Adp then some (245,.fld 0 2)else none)
 else if t=97 then(if name= "Unwrap" then some (244,.self)else none)
 else none
def cfg:Conf:={te:=te,imm:=[99,207,216,280,292,312,325],own:=[],inv:=Aie,ownR:=[99,101,128,53,127,72],sp:=fun _ _ _=>none}
theorem Adj:Tryz.prog.follows .mixedOrders=true:=Y
theorem ZP:(Tryz.prog.funcs.toList.all fun fn=> !(fn.name== "runtime.NumGoroutine"))=true:=Y
theorem Aoc:J3 Tryz.prog 152 So 264 .self:=fun w v=>Y
theorem Aob:J3 Tryz.prog 152 Adq 262 .self:=fun w v=>Y
theorem Aoa:J3 Tryz.prog 152 Xp 263 .self:=fun w v=>Y
theorem An9:J3 Tryz.prog 152 Adp 245 (.fld 0 2):=fun w v=>Y
theorem An8:J3 Tryz.prog 153 So 268 .self:=fun w v=>Y
theorem An7:J3 Tryz.prog 153 Adq 266 .self:=fun w v=>Y
theorem An6:J3 Tryz.prog 153 Xp 267 .self:=fun w v=>Y
theorem An5:J3 Tryz.prog 153 Adp 245 (.fld 0 2):=fun w v=>Y
theorem An4:J3 Tryz.prog 97 "Unwrap" 244 .self:=fun w v=>Y
theorem Al6: ∀t name f rc,Aie t name=some (f,rc)→J3 Tryz.prog t name f rc:=by
 intro t name f rc h
 unfold Aie at h
 split at h
 ·rename_i e;subst e
  split at h
  ·rename_i e;subst e;cases h;exact Aoc
  ·split at h
   ·rename_i e;subst e;cases h;exact Aob
   ·split at h
    ·rename_i e;subst e;cases h;exact Aoa
    ·split at h
     ·rename_i e;subst e;cases h;exact An9
     ·cases h
 ·split at h
  ·rename_i e;subst e
   split at h
   ·rename_i e;subst e;cases h;exact An8
   ·split at h
    ·rename_i e;subst e;cases h;exact An7
    ·split at h
     ·rename_i e;subst e;cases h;exact An6
     ·split at h
      ·rename_i e;subst e;cases h;exact An5
      ·cases h
  ·split at h
   ·rename_i e;subst e
    split at h
    ·rename_i e;subst e;cases h;exact An4
    ·cases h
   ·cases h
theorem Ac:ProgOk Tryz.prog cfg where
 te:=Amr
 inv:=Al6
 num:=fun f fn h=>by
  have h0:=ZP
  rw[List.all_eq_true]at h0
  have:=h0 fn (List.mem_of_getElem? (by rw[Array.getElem?_toList];exact h))
  simpa using this
 mix:=Adj
 sp:=fun f az σ r σ' h=>by cases h
end Go.Proofs.YtpdmaenhenfofaaGreatDoor
