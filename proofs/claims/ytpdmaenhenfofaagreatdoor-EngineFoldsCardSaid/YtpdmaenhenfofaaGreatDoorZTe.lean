/- The types that the functions of this seat use, and that the program has them so. Written by te.py. -/
import Derived.Test.YtpdmaenhenfofaaGreatDoorZM4
import Derived.Test.YtpdmaenhenfofaaGreatDoorProg
import Derived.KernelRfl
set_option linter.unusedVariables false
set_option linter.unusedSimpArgs false
namespace Go.Proofs.YtpdmaenhenfofaaGreatDoor
open Go.Am
def ti2:TI:=⟨1,8,[.int .i64 0],.int .i64⟩
def ti3:TI:=⟨1,8,[.int .i64 0],.int .i64⟩
def ti4:TI:=⟨1,1,[.bool false],.bool⟩
def ti5:TI:=⟨1,1,[.int .u8 0],.int .u8⟩
def ti6:TI:=⟨1,1,[.int .u8 0],.int .u8⟩
def ti8:TI:=⟨4,24,[.int .i64 0,.int .i64 0,.bool false,.int .u8 0],.struct [(0,2),(1,3),(2,4),(3,6)]⟩
def ti9:TI:=⟨1,16,[.str []],.string⟩
def Ajv:TI:=⟨1,16,[.str []],.string⟩
def Aju:TI:=⟨1,16,[.str []],.string⟩
def Ajt:TI:=⟨1,8,[.int .u64 0],.int .u64⟩
def Ajs:TI:=⟨1,8,[.nilPtr],.ptr 330⟩
def Ajr:TI:=⟨1,8,[.nilPtr],.ptr 333⟩
def Ajq:TI:=⟨1,8,[.nilPtr],.ptr 342⟩
def Ajp:TI:=⟨1,16,[.nilIface],.iface⟩
def Ajo:TI:=⟨1,24,[.slice .nil 0 []],.slice 78⟩
def Ajn:TI:=⟨1,24,[.slice .nil 0 []],.slice 88⟩
def Ajm:TI:=⟨1,8,[.int .i64 0],.int .i64⟩
def Ajl:TI:=⟨1,1,[.int .i8 0],.int .i8⟩
def Ajk:TI:=⟨1,24,[.slice .nil 0 []],.slice 45⟩
def Aht:TI:=⟨5,56,[.int .i64 0,.int .i64 0,.int .i64 0,.bool false,.slice .nil 0 []],.struct [(0,3),(1,3),(2,3),(3,4),(4,32)]⟩
def Ajj:TI:=⟨1,24,[.slice .nil 0 []],.slice 34⟩
def Aji:TI:=⟨1,24,[.slice .nil 0 []],.slice 76⟩
def Ajh:TI:=⟨1,24,[.slice .nil 0 []],.slice 105⟩
def Ajg:TI:=⟨1,24,[.slice .nil 0 []],.slice 61⟩
def F8:TI:=⟨5,88,[.int .i64 0,.int .i64 0,.slice .nil 0 [],.slice .nil 0 [],.slice .nil 0 []],.struct [(0,3),(1,3),(2,37),(3,38),(4,39)]⟩
def Ajf:TI:=⟨2,32,[.str [],.str []],.struct [(0,9),(1,9)]⟩
def Aje:TI:=⟨1,24,[.slice .nil 0 []],.slice 54⟩
def Ajd:TI:=⟨9,88,[.int .i64 0,.int .i64 0,.int .i64 0,.int .i64 0,.bool false,.slice .nil 0 [],.int .i64 0,.bool false,.int .i64 0],.struct [(0,3),(1,34),(6,3),(7,4),(8,3)]⟩
def Ajc:TI:=⟨1,24,[.slice .nil 0 []],.slice 147⟩
def Ahs:TI:=⟨4,48,[.int .i64 0,.int .i64 0,.int .i64 0,.slice .nil 0 []],.struct [(0,3),(1,3),(2,3),(3,59)]⟩
def Ajb:TI:=⟨1,24,[.slice .nil 0 []],.slice 173⟩
def XG:TI:=⟨4,48,[.slice .nil 0 [],.int .i64 0,.int .i64 0,.bool false],.struct [(0,65),(1,3),(2,3),(3,4)]⟩
def Aja:TI:=⟨5,56,[.int .i64 0,.int .i64 0,.int .i64 0,.str [],.str []],.struct [(0,3),(1,3),(2,3),(3,9),(4,9)]⟩
def Ai9:TI:=⟨18,192,[.int .i8 0,.int .i64 0,.int .i64 0,.int .i64 0,.bool false,.slice .nil 0 [],.bool false,.int .i64 0,.int .i64 0,.int .i64 0,.int .i64 0,.int .i64 0,.str [],.str [],.int .i64 0,.int .i64 0,.int .i64 0,.slice .nil 0 []],.struct [(0,31),(1,34),(6,4),(7,3),(8,3),(9,76),(14,61)]⟩
def Ai8:TI:=⟨1,24,[.slice .nil 0 []],.slice 9⟩
def SU:TI:=⟨4,48,[.int .i8 0,.str [],.str [],.int .i64 0],.struct [(0,31),(1,9),(2,9),(3,3)]⟩
def Ai7:TI:=⟨1,8,[.nilFunc],.func⟩
def Ai6:TI:=⟨1,16,[.nilIface],.iface⟩
def Ai5:TI:=⟨1,16,[.nilIface],.iface⟩
def Ai4:TI:=⟨1,8,[.nilPtr],.ptr 99⟩
def Ai3:TI:=⟨2,24,[.str [],.int .i64 0],.struct [(0,9),(1,26)]⟩
def WR:TI:=⟨3,40,[.int .i64 0,.int .i64 0,.slice .nil 0 []],.struct [(0,3),(1,3),(2,36)]⟩
def Ag7:TI:=⟨1,24,[.slice .nil 0 []],.slice 121⟩
def Ag6:TI:=⟨2,32,[.int .i64 0,.slice .nil 0 []],.struct [(0,3),(1,22)]⟩
def Ag5:TI:=⟨1,8,[.nilPtr],.ptr 41⟩
def Ag4:TI:=⟨1,24,[.slice .nil 0 []],.slice 5⟩
def Ag3:TI:=⟨1,24,[.slice .nil 0 []],.slice 3⟩
def NJ:TI:=⟨3,24,[.int .i64 0,.int .i64 0,.int .i64 0],.struct [(0,3),(1,3),(2,3)]⟩
def Ag2:TI:=⟨1,8,[.int .u64 0],.int .u64⟩
def Ag1:TI:=⟨2,16,[.int .i8 0,.int .i64 0],.struct [(0,31),(1,3)]⟩
def Ag0:TI:=⟨2,16,[.int .i8 0,.int .i64 0],.struct [(0,150)]⟩
def Agz:TI:=⟨2,16,[.int .i8 0,.int .i64 0],.struct [(0,150)]⟩
def Agy:TI:=⟨1,8,[.nilFunc],.func⟩
def Agx:TI:=⟨1,8,[.nilPtr],.ptr 26⟩
def Agw:TI:=⟨3,40,[.str [],.str [],.int .i64 0],.struct [(0,9),(1,9),(2,3)]⟩
def Agv:TI:=⟨1,8,[.nilPtr],.ptr 187⟩
def Agu:TI:=⟨1,24,[.slice .nil 0 []],.slice 191⟩
def Agt:TI:=⟨6,112,[.int .i64 0,.int .i64 0,.slice .nil 0 [],.slice .nil 0 [],.slice .nil 0 [],.slice .nil 0 []],.struct [(0,41),(5,185)]⟩
def Ags:TI:=⟨2,32,[.int .i64 0,.slice .nil 0 []],.struct [(0,3),(1,36)]⟩
def Agr:TI:=⟨1,8,[.nilFunc],.func⟩
def Agq:TI:=⟨1,8,[.nilFunc],.func⟩
def Agp:TI:=⟨1,8,[.nilFunc],.func⟩
def Ago:TI:=⟨1,8,[.nilPtr],.ptr 207⟩
def Agn:TI:=⟨2,16,[.int .i64 0,.int .i64 0],.struct [(0,3),(1,26)]⟩
def Agm:TI:=⟨1,8,[.nilPtr],.ptr 210⟩
def Agl:TI:=⟨2,32,[.slice .nil 0 [],.int .i64 0],.struct [(0,139),(1,26)]⟩
def Agk:TI:=⟨1,8,[.nilFunc],.func⟩
def Agj:TI:=⟨1,8,[.nilPtr],.ptr 216⟩
def Agi:TI:=⟨1,8,[.int .i64 0],.struct [(0,26)]⟩
def Z1:TI:=⟨4,4,[.int .u8 0,.int .u8 0,.int .u8 0,.int .u8 0],.array 4 5⟩
def Agh:TI:=⟨1,16,[.nilIface],.iface⟩
def Agg:TI:=⟨1,8,[.int .u64 0],.int .u64⟩
def Agf:TI:=⟨1,1,[.int .u8 0],.int .u8⟩
def Age:TI:=⟨1,8,[.nilPtr],.ptr 295⟩
def Agd:TI:=⟨1,8,[.nilFunc],.func⟩
def Agc:TI:=⟨1,8,[.nilFunc],.func⟩
def Agb:TI:=⟨1,8,[.nilFunc],.func⟩
def Aga:TI:=⟨7,56,[.nilFunc,.nilFunc,.nilFunc,.nilFunc,.nilFunc,.nilFunc,.nilFunc],.array 7 211⟩
def Af9:TI:=⟨1,8,[.nilPtr],.ptr 362⟩
def Af8:TI:=⟨1,16,[.nilIface],.iface⟩
def Af7:TI:=⟨1,16,[.nilIface],.iface⟩
def Af6:TI:=⟨1,16,[.nilIface],.iface⟩
def Af5:TI:=⟨1,24,[.slice .nil 0 []],.slice 93⟩
def Af4:TI:=⟨1,8,[.nilPtr],.ptr 280⟩
def Af3:TI:=⟨2,16,[.int .i64 0,.int .i64 0],.struct [(0,3),(1,26)]⟩
def Af2:TI:=⟨1,8,[.nilFunc],.func⟩
def Af1:TI:=⟨1,16,[.nilIface],.iface⟩
def Af0:TI:=⟨1,8,[.nilPtr],.ptr 292⟩
def Afz:TI:=⟨2,24,[.str [],.int .i64 0],.struct [(0,9),(1,26)]⟩
def Afy:TI:=⟨3,32,[.str [],.int .i64 0,.bool false],.struct [(0,9),(1,3),(2,4)]⟩
def Afx:TI:=⟨1,8,[.nilFunc],.func⟩
def Afw:TI:=⟨1,8,[.nilFunc],.func⟩
def Afv:TI:=⟨1,8,[.nilPtr],.ptr 312⟩
def Afu:TI:=⟨2,24,[.str [],.int .i64 0],.struct [(0,9),(1,26)]⟩
def Aft:TI:=⟨1,8,[.nilFunc],.func⟩
def Afs:TI:=⟨1,8,[.nilPtr],.ptr 325⟩
def Afr:TI:=⟨2,24,[.str [],.int .i64 0],.struct [(0,9),(1,26)]⟩
def Afq:TI:=⟨1,24,[.slice .nil 0 []],.slice 139⟩
def Afp:TI:=⟨1,4,[.int .u32 0],.int .u32⟩
def Afo:TI:=⟨1,4,[.int .i32 0],.int .i32⟩
def Afn:TI:=⟨1,4,[.int .i32 0],.int .i32⟩
def Afm:TI:=⟨24,24,[.int .u8 0,.int .u8 0,.int .u8 0,.int .u8 0,.int .u8 0,.int .u8 0,.int .u8 0,.int .u8 0,.int .u8 0,.int .u8 0,.int .u8 0,.int .u8 0,.int .u8 0,.int .u8 0,.int .u8 0,.int .u8 0,.int .u8 0,.int .u8 0,.int .u8 0,.int .u8 0,.int .u8 0,.int .u8 0,.int .u8 0,.int .u8 0],.array 24 5⟩
def Afl:TI:=⟨1,8,[.int .u64 0],.int .u64⟩
def Afk:TI:=⟨20,160,[.int .u64 0,.int .u64 0,.int .u64 0,.int .u64 0,.int .u64 0,.int .u64 0,.int .u64 0,.int .u64 0,.int .u64 0,.int .u64 0,.int .u64 0,.int .u64 0,.int .u64 0,.int .u64 0,.int .u64 0,.int .u64 0,.int .u64 0,.int .u64 0,.int .u64 0,.int .u64 0],.array 20 345⟩
def Afj:TI:=⟨32,32,[.int .u8 0,.int .u8 0,.int .u8 0,.int .u8 0,.int .u8 0,.int .u8 0,.int .u8 0,.int .u8 0,.int .u8 0,.int .u8 0,.int .u8 0,.int .u8 0,.int .u8 0,.int .u8 0,.int .u8 0,.int .u8 0,.int .u8 0,.int .u8 0,.int .u8 0,.int .u8 0,.int .u8 0,.int .u8 0,.int .u8 0,.int .u8 0,.int .u8 0,.int .u8 0,.int .u8 0,.int .u8 0,.int .u8 0,.int .u8 0,.int .u8 0,.int .u8 0],.array 32 5⟩
def Afi:TI:=⟨64,64,[.int .u8 0,.int .u8 0,.int .u8 0,.int .u8 0,.int .u8 0,.int .u8 0,.int .u8 0,.int .u8 0,.int .u8 0,.int .u8 0,.int .u8 0,.int .u8 0,.int .u8 0,.int .u8 0,.int .u8 0,.int .u8 0,.int .u8 0,.int .u8 0,.int .u8 0,.int .u8 0,.int .u8 0,.int .u8 0,.int .u8 0,.int .u8 0,.int .u8 0,.int .u8 0,.int .u8 0,.int .u8 0,.int .u8 0,.int .u8 0,.int .u8 0,.int .u8 0,.int .u8 0,.int .u8 0,.int .u8 0,.int .u8 0,.int .u8 0,.int .u8 0,.int .u8 0,.int .u8 0,.int .u8 0,.int .u8 0,.int .u8 0,.int .u8 0,.int .u8 0,.int .u8 0,.int .u8 0,.int .u8 0,.int .u8 0,.int .u8 0,.int .u8 0,.int .u8 0,.int .u8 0,.int .u8 0,.int .u8 0,.int .u8 0,.int .u8 0,.int .u8 0,.int .u8 0,.int .u8 0,.int .u8 0,.int .u8 0,.int .u8 0,.int .u8 0],.array 64 5⟩
def Afh:TI:=⟨1,8,[.nilPtr],.ptr 367⟩
def Afg:TI:=⟨1,24,[.slice .nil 0 []],.slice 371⟩
def Aff:TI:=⟨1,4,[.int .i32 0],.int .i32⟩
def Afe:TI:=⟨1,8,[.nilPtr],.ptr 93⟩
def te:TE:=[(2,ti2),(3,ti3),(4,ti4),(5,ti5),(6,ti6),(8,ti8),(9,ti9),(10,Ajv),(11,Aju),(12,Ajt),(15,Ajs),(16,Ajr),(17,Ajq),(20,Ajp),(22,Ajo),(25,Ajn),(26,Ajm),(31,Ajl),(32,Ajk),(34,Aht),(36,Ajj),(37,Aji),(38,Ajh),(39,Ajg),(41,F8),(45,Ajf),(51,Aje),(54,Ajd),(59,Ajc),(61,Ahs),(65,Ajb),(67,XG),(76,Aja),(78,Ai9),(82,Ai8),(88,SU),(89,Ai7),(91,Ai6),(93,Ai5),(97,Ai4),(99,Ai3),(105,WR),(118,Ag7),(121,Ag6),(130,Ag5),(139,Ag4),(142,Ag3),(147,NJ),(148,Ag2),(150,Ag1),(152,Ag0),(153,Agz),(155,Agy),(165,Agx),(173,Agw),(184,Agv),(185,Agu),(187,Agt),(191,Ags),(193,Agr),(200,Agq),(203,Agp),(205,Ago),(207,Agn),(208,Agm),(210,Agl),(211,Agk),(214,Agj),(216,Agi),(218,Z1),(221,Agh),(236,Agg),(241,Agf),(250,Age),(261,Agd),(262,Agc),(264,Agb),(266,Aga),(269,Af9),(270,Af8),(273,Af7),(275,Af6),(276,Af5),(278,Af4),(280,Af3),(281,Af2),(287,Af1),(290,Af0),(292,Afz),(295,Afy),(304,Afx),(308,Afw),(310,Afv),(312,Afu),(316,Aft),(323,Afs),(325,Afr),(327,Afq),(335,Afp),(339,Afo),(340,Afn),(344,Afm),(345,Afl),(351,Afk),(355,Afj),(356,Afi),(363,Afh),(368,Afg),(369,Aff),(372,Afe)]
theorem Ajw:D1 Tryz.prog []:=fun t ti h=>by cases h
theorem AE {t:Nat} {ti:TI} {r:TE} (h:TeOk1 Tryz.prog t ti) (hr:D1 Tryz.prog r):D1 Tryz.prog ((t,ti)::r):=fun u ui hu=>by
 rw[A3]at hu
 split at hu
 ·rename_i e;subst e;cases hu;exact h
 ·exact hr u ui hu
theorem te2:TeOk1 Tryz.prog 2 ti2:=⟨Y,Y,Y,Y,fun _=>rfl,fun h=>by cases h⟩
theorem te3:TeOk1 Tryz.prog 3 ti3:=⟨Y,Y,Y,Y,fun _=>rfl,fun h=>by cases h⟩
theorem te4:TeOk1 Tryz.prog 4 ti4:=⟨Y,Y,Y,Y,fun _=>rfl,fun h=>by cases h⟩
theorem te5:TeOk1 Tryz.prog 5 ti5:=⟨Y,Y,Y,Y,fun _=>rfl,fun h=>by cases h⟩
theorem te6:TeOk1 Tryz.prog 6 ti6:=⟨Y,Y,Y,Y,fun _=>rfl,fun h=>by cases h⟩
theorem te8:TeOk1 Tryz.prog 8 ti8:=⟨Y,Y,Y,Y,fun h=>absurd h Ab,fun _=>Y⟩
theorem te9:TeOk1 Tryz.prog 9 ti9:=⟨Y,Y,Y,Y,fun _=>rfl,fun h=>by cases h⟩
theorem Anz:TeOk1 Tryz.prog 10 Ajv:=⟨Y,Y,Y,Y,fun _=>rfl,fun h=>by cases h⟩
theorem Any:TeOk1 Tryz.prog 11 Aju:=⟨Y,Y,Y,Y,fun _=>rfl,fun h=>by cases h⟩
theorem Anx:TeOk1 Tryz.prog 12 Ajt:=⟨Y,Y,Y,Y,fun _=>rfl,fun h=>by cases h⟩
theorem Anw:TeOk1 Tryz.prog 15 Ajs:=⟨Y,Y,Y,Y,fun _=>rfl,fun h=>by cases h⟩
theorem Anv:TeOk1 Tryz.prog 16 Ajr:=⟨Y,Y,Y,Y,fun _=>rfl,fun h=>by cases h⟩
theorem Anu:TeOk1 Tryz.prog 17 Ajq:=⟨Y,Y,Y,Y,fun _=>rfl,fun h=>by cases h⟩
theorem Ant:TeOk1 Tryz.prog 20 Ajp:=⟨Y,Y,Y,Y,fun _=>rfl,fun h=>by cases h⟩
theorem Ans:TeOk1 Tryz.prog 22 Ajo:=⟨Y,Y,Y,Y,fun _=>rfl,fun h=>by cases h⟩
theorem Anr:TeOk1 Tryz.prog 25 Ajn:=⟨Y,Y,Y,Y,fun _=>rfl,fun h=>by cases h⟩
theorem Anq:TeOk1 Tryz.prog 26 Ajm:=⟨Y,Y,Y,Y,fun _=>rfl,fun h=>by cases h⟩
theorem Anp:TeOk1 Tryz.prog 31 Ajl:=⟨Y,Y,Y,Y,fun _=>rfl,fun h=>by cases h⟩
theorem Ano:TeOk1 Tryz.prog 32 Ajk:=⟨Y,Y,Y,Y,fun _=>rfl,fun h=>by cases h⟩
theorem Ann:TeOk1 Tryz.prog 34 Aht:=⟨Y,Y,Y,Y,fun h=>absurd h Ab,fun _=>Y⟩
theorem Anm:TeOk1 Tryz.prog 36 Ajj:=⟨Y,Y,Y,Y,fun _=>rfl,fun h=>by cases h⟩
theorem Anl:TeOk1 Tryz.prog 37 Aji:=⟨Y,Y,Y,Y,fun _=>rfl,fun h=>by cases h⟩
theorem Ank:TeOk1 Tryz.prog 38 Ajh:=⟨Y,Y,Y,Y,fun _=>rfl,fun h=>by cases h⟩
theorem Anj:TeOk1 Tryz.prog 39 Ajg:=⟨Y,Y,Y,Y,fun _=>rfl,fun h=>by cases h⟩
theorem Ani:TeOk1 Tryz.prog 41 F8:=⟨Y,Y,Y,Y,fun h=>absurd h Ab,fun _=>Y⟩
theorem Anh:TeOk1 Tryz.prog 45 Ajf:=⟨Y,Y,Y,Y,fun h=>absurd h Ab,fun _=>Y⟩
theorem Ang:TeOk1 Tryz.prog 51 Aje:=⟨Y,Y,Y,Y,fun _=>rfl,fun h=>by cases h⟩
theorem Anf:TeOk1 Tryz.prog 54 Ajd:=⟨Y,Y,Y,Y,fun h=>absurd h Ab,fun _=>Y⟩
theorem Ane:TeOk1 Tryz.prog 59 Ajc:=⟨Y,Y,Y,Y,fun _=>rfl,fun h=>by cases h⟩
theorem Anc:TeOk1 Tryz.prog 61 Ahs:=⟨Y,Y,Y,Y,fun h=>absurd h Ab,fun _=>Y⟩
theorem Anb:TeOk1 Tryz.prog 65 Ajb:=⟨Y,Y,Y,Y,fun _=>rfl,fun h=>by cases h⟩
theorem Ana:TeOk1 Tryz.prog 67 XG:=⟨Y,Y,Y,Y,fun h=>absurd h Ab,fun _=>Y⟩
theorem Am0:TeOk1 Tryz.prog 76 Aja:=⟨Y,Y,Y,Y,fun h=>absurd h Ab,fun _=>Y⟩
theorem Amz:TeOk1 Tryz.prog 78 Ai9:=⟨Y,Y,Y,Y,fun h=>absurd h Ab,fun _=>Y⟩
theorem Amy:TeOk1 Tryz.prog 82 Ai8:=⟨Y,Y,Y,Y,fun _=>rfl,fun h=>by cases h⟩
theorem Amx:TeOk1 Tryz.prog 88 SU:=⟨Y,Y,Y,Y,fun h=>absurd h Ab,fun _=>Y⟩
theorem Amw:TeOk1 Tryz.prog 89 Ai7:=⟨Y,Y,Y,Y,fun _=>rfl,fun h=>by cases h⟩
theorem Amv:TeOk1 Tryz.prog 91 Ai6:=⟨Y,Y,Y,Y,fun _=>rfl,fun h=>by cases h⟩
theorem Amu:TeOk1 Tryz.prog 93 Ai5:=⟨Y,Y,Y,Y,fun _=>rfl,fun h=>by cases h⟩
theorem Amt:TeOk1 Tryz.prog 97 Ai4:=⟨Y,Y,Y,Y,fun _=>rfl,fun h=>by cases h⟩
theorem Ams:TeOk1 Tryz.prog 99 Ai3:=⟨Y,Y,Y,Y,fun h=>absurd h Ab,fun _=>Y⟩
theorem Alt:TeOk1 Tryz.prog 105 WR:=⟨Y,Y,Y,Y,fun h=>absurd h Ab,fun _=>Y⟩
theorem Als:TeOk1 Tryz.prog 118 Ag7:=⟨Y,Y,Y,Y,fun _=>rfl,fun h=>by cases h⟩
theorem Alr:TeOk1 Tryz.prog 121 Ag6:=⟨Y,Y,Y,Y,fun h=>absurd h Ab,fun _=>Y⟩
theorem Alq:TeOk1 Tryz.prog 130 Ag5:=⟨Y,Y,Y,Y,fun _=>rfl,fun h=>by cases h⟩
theorem Alp:TeOk1 Tryz.prog 139 Ag4:=⟨Y,Y,Y,Y,fun _=>rfl,fun h=>by cases h⟩
theorem Alo:TeOk1 Tryz.prog 142 Ag3:=⟨Y,Y,Y,Y,fun _=>rfl,fun h=>by cases h⟩
theorem Aln:TeOk1 Tryz.prog 147 NJ:=⟨Y,Y,Y,Y,fun h=>absurd h Ab,fun _=>Y⟩
theorem Alm:TeOk1 Tryz.prog 148 Ag2:=⟨Y,Y,Y,Y,fun _=>rfl,fun h=>by cases h⟩
theorem All:TeOk1 Tryz.prog 150 Ag1:=⟨Y,Y,Y,Y,fun h=>absurd h Ab,fun _=>Y⟩
theorem Alk:TeOk1 Tryz.prog 152 Ag0:=⟨Y,Y,Y,Y,fun h=>absurd h Ab,fun _=>Y⟩
theorem Alj:TeOk1 Tryz.prog 153 Agz:=⟨Y,Y,Y,Y,fun h=>absurd h Ab,fun _=>Y⟩
theorem Ali:TeOk1 Tryz.prog 155 Agy:=⟨Y,Y,Y,Y,fun _=>rfl,fun h=>by cases h⟩
theorem Alh:TeOk1 Tryz.prog 165 Agx:=⟨Y,Y,Y,Y,fun _=>rfl,fun h=>by cases h⟩
theorem Alg:TeOk1 Tryz.prog 173 Agw:=⟨Y,Y,Y,Y,fun h=>absurd h Ab,fun _=>Y⟩
theorem Alf:TeOk1 Tryz.prog 184 Agv:=⟨Y,Y,Y,Y,fun _=>rfl,fun h=>by cases h⟩
theorem Ale:TeOk1 Tryz.prog 185 Agu:=⟨Y,Y,Y,Y,fun _=>rfl,fun h=>by cases h⟩
theorem Ald:TeOk1 Tryz.prog 187 Agt:=⟨Y,Y,Y,Y,fun h=>absurd h Ab,fun _=>Y⟩
theorem Alc:TeOk1 Tryz.prog 191 Ags:=⟨Y,Y,Y,Y,fun h=>absurd h Ab,fun _=>Y⟩
theorem Alb:TeOk1 Tryz.prog 193 Agr:=⟨Y,Y,Y,Y,fun _=>rfl,fun h=>by cases h⟩
theorem Ala:TeOk1 Tryz.prog 200 Agq:=⟨Y,Y,Y,Y,fun _=>rfl,fun h=>by cases h⟩
theorem Ak9:TeOk1 Tryz.prog 203 Agp:=⟨Y,Y,Y,Y,fun _=>rfl,fun h=>by cases h⟩
theorem Ak8:TeOk1 Tryz.prog 205 Ago:=⟨Y,Y,Y,Y,fun _=>rfl,fun h=>by cases h⟩
theorem Ak7:TeOk1 Tryz.prog 207 Agn:=⟨Y,Y,Y,Y,fun h=>absurd h Ab,fun _=>Y⟩
theorem Ak6:TeOk1 Tryz.prog 208 Agm:=⟨Y,Y,Y,Y,fun _=>rfl,fun h=>by cases h⟩
theorem Ak5:TeOk1 Tryz.prog 210 Agl:=⟨Y,Y,Y,Y,fun h=>absurd h Ab,fun _=>Y⟩
theorem Ak4:TeOk1 Tryz.prog 211 Agk:=⟨Y,Y,Y,Y,fun _=>rfl,fun h=>by cases h⟩
theorem Ak3:TeOk1 Tryz.prog 214 Agj:=⟨Y,Y,Y,Y,fun _=>rfl,fun h=>by cases h⟩
theorem Ak2:TeOk1 Tryz.prog 216 Agi:=⟨Y,Y,Y,Y,fun h=>absurd h Ab,fun _=>Y⟩
theorem Ak1:TeOk1 Tryz.prog 218 Z1:=⟨Y,Y,Y,Y,fun h=>absurd h Ab,fun h=>by cases h⟩
theorem Ak0:TeOk1 Tryz.prog 221 Agh:=⟨Y,Y,Y,Y,fun _=>rfl,fun h=>by cases h⟩
theorem Akz:TeOk1 Tryz.prog 236 Agg:=⟨Y,Y,Y,Y,fun _=>rfl,fun h=>by cases h⟩
theorem Aky:TeOk1 Tryz.prog 241 Agf:=⟨Y,Y,Y,Y,fun _=>rfl,fun h=>by cases h⟩
theorem Akx:TeOk1 Tryz.prog 250 Age:=⟨Y,Y,Y,Y,fun _=>rfl,fun h=>by cases h⟩
theorem Akw:TeOk1 Tryz.prog 261 Agd:=⟨Y,Y,Y,Y,fun _=>rfl,fun h=>by cases h⟩
theorem Akv:TeOk1 Tryz.prog 262 Agc:=⟨Y,Y,Y,Y,fun _=>rfl,fun h=>by cases h⟩
theorem Aku:TeOk1 Tryz.prog 264 Agb:=⟨Y,Y,Y,Y,fun _=>rfl,fun h=>by cases h⟩
theorem Akt:TeOk1 Tryz.prog 266 Aga:=⟨Y,Y,Y,Y,fun h=>absurd h Ab,fun h=>by cases h⟩
theorem Aks:TeOk1 Tryz.prog 269 Af9:=⟨Y,Y,Y,Y,fun _=>rfl,fun h=>by cases h⟩
theorem Akr:TeOk1 Tryz.prog 270 Af8:=⟨Y,Y,Y,Y,fun _=>rfl,fun h=>by cases h⟩
theorem Akq:TeOk1 Tryz.prog 273 Af7:=⟨Y,Y,Y,Y,fun _=>rfl,fun h=>by cases h⟩
theorem Akp:TeOk1 Tryz.prog 275 Af6:=⟨Y,Y,Y,Y,fun _=>rfl,fun h=>by cases h⟩
theorem Ako:TeOk1 Tryz.prog 276 Af5:=⟨Y,Y,Y,Y,fun _=>rfl,fun h=>by cases h⟩
theorem Akn:TeOk1 Tryz.prog 278 Af4:=⟨Y,Y,Y,Y,fun _=>rfl,fun h=>by cases h⟩
theorem Akm:TeOk1 Tryz.prog 280 Af3:=⟨Y,Y,Y,Y,fun h=>absurd h Ab,fun _=>Y⟩
theorem Akl:TeOk1 Tryz.prog 281 Af2:=⟨Y,Y,Y,Y,fun _=>rfl,fun h=>by cases h⟩
theorem Akk:TeOk1 Tryz.prog 287 Af1:=⟨Y,Y,Y,Y,fun _=>rfl,fun h=>by cases h⟩
theorem Akj:TeOk1 Tryz.prog 290 Af0:=⟨Y,Y,Y,Y,fun _=>rfl,fun h=>by cases h⟩
theorem Aki:TeOk1 Tryz.prog 292 Afz:=⟨Y,Y,Y,Y,fun h=>absurd h Ab,fun _=>Y⟩
theorem Akh:TeOk1 Tryz.prog 295 Afy:=⟨Y,Y,Y,Y,fun h=>absurd h Ab,fun _=>Y⟩
theorem Akg:TeOk1 Tryz.prog 304 Afx:=⟨Y,Y,Y,Y,fun _=>rfl,fun h=>by cases h⟩
theorem Akf:TeOk1 Tryz.prog 308 Afw:=⟨Y,Y,Y,Y,fun _=>rfl,fun h=>by cases h⟩
theorem Ake:TeOk1 Tryz.prog 310 Afv:=⟨Y,Y,Y,Y,fun _=>rfl,fun h=>by cases h⟩
theorem Akd:TeOk1 Tryz.prog 312 Afu:=⟨Y,Y,Y,Y,fun h=>absurd h Ab,fun _=>Y⟩
theorem Akc:TeOk1 Tryz.prog 316 Aft:=⟨Y,Y,Y,Y,fun _=>rfl,fun h=>by cases h⟩
theorem Akb:TeOk1 Tryz.prog 323 Afs:=⟨Y,Y,Y,Y,fun _=>rfl,fun h=>by cases h⟩
theorem Aka:TeOk1 Tryz.prog 325 Afr:=⟨Y,Y,Y,Y,fun h=>absurd h Ab,fun _=>Y⟩
theorem Aj9:TeOk1 Tryz.prog 327 Afq:=⟨Y,Y,Y,Y,fun _=>rfl,fun h=>by cases h⟩
theorem Aj8:TeOk1 Tryz.prog 335 Afp:=⟨Y,Y,Y,Y,fun _=>rfl,fun h=>by cases h⟩
theorem Aj7:TeOk1 Tryz.prog 339 Afo:=⟨Y,Y,Y,Y,fun _=>rfl,fun h=>by cases h⟩
theorem Aj6:TeOk1 Tryz.prog 340 Afn:=⟨Y,Y,Y,Y,fun _=>rfl,fun h=>by cases h⟩
theorem Aj5:TeOk1 Tryz.prog 344 Afm:=⟨Y,Y,Y,Y,fun h=>absurd h Ab,fun h=>by cases h⟩
theorem Aj4:TeOk1 Tryz.prog 345 Afl:=⟨Y,Y,Y,Y,fun _=>rfl,fun h=>by cases h⟩
theorem Aj3:TeOk1 Tryz.prog 351 Afk:=⟨Y,Y,Y,Y,fun h=>absurd h Ab,fun h=>by cases h⟩
theorem Aj2:TeOk1 Tryz.prog 355 Afj:=⟨Y,Y,Y,Y,fun h=>absurd h Ab,fun h=>by cases h⟩
theorem Aj1:TeOk1 Tryz.prog 356 Afi:=⟨Y,Y,Y,Y,fun h=>absurd h Ab,fun h=>by cases h⟩
theorem Aj0:TeOk1 Tryz.prog 363 Afh:=⟨Y,Y,Y,Y,fun _=>rfl,fun h=>by cases h⟩
theorem Ajz:TeOk1 Tryz.prog 368 Afg:=⟨Y,Y,Y,Y,fun _=>rfl,fun h=>by cases h⟩
theorem Ajy:TeOk1 Tryz.prog 369 Aff:=⟨Y,Y,Y,Y,fun _=>rfl,fun h=>by cases h⟩
theorem Ajx:TeOk1 Tryz.prog 372 Afe:=⟨Y,Y,Y,Y,fun _=>rfl,fun h=>by cases h⟩
theorem Amr:D1 Tryz.prog te:=
 (AE te2 (AE te3 (AE te4 (AE te5 (AE te6 (AE te8 (AE te9 (AE Anz (AE Any (AE Anx (AE Anw (AE Anv (AE Anu (AE Ant (AE Ans (AE Anr (AE Anq (AE Anp (AE Ano (AE Ann (AE Anm (AE Anl (AE Ank (AE Anj (AE Ani (AE Anh (AE Ang (AE Anf (AE Ane (AE Anc (AE Anb (AE Ana (AE Am0 (AE Amz (AE Amy (AE Amx (AE Amw (AE Amv (AE Amu (AE Amt (AE Ams (AE Alt (AE Als (AE Alr (AE Alq (AE Alp (AE Alo (AE Aln (AE Alm (AE All (AE Alk (AE Alj (AE Ali (AE Alh (AE Alg (AE Alf (AE Ale (AE Ald (AE Alc (AE Alb (AE Ala (AE Ak9 (AE Ak8 (AE Ak7 (AE Ak6 (AE Ak5 (AE Ak4 (AE Ak3 (AE Ak2 (AE Ak1 (AE Ak0 (AE Akz (AE Aky (AE Akx (AE Akw (AE Akv (AE Aku (AE Akt (AE Aks (AE Akr (AE Akq (AE Akp (AE Ako (AE Akn (AE Akm (AE Akl (AE Akk (AE Akj (AE Aki (AE Akh (AE Akg (AE Akf (AE Ake (AE Akd (AE Akc (AE Akb (AE Aka (AE Aj9 (AE Aj8 (AE Aj7 (AE Aj6 (AE Aj5 (AE Aj4 (AE Aj3 (AE Aj2 (AE Aj1 (AE Aj0 (AE Ajz (AE Ajy (AE Ajx Ajw))))))))))))))))))))))))))))))))))))))))))))))))))))))))))))))))))))))))))))))))))))))))))))))))))))))))))))))
end Go.Proofs.YtpdmaenhenfofaaGreatDoor
