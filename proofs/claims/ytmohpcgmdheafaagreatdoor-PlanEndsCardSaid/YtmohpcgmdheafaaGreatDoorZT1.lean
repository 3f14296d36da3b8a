/- Contracts and laws, joined: Te, Cf. No condition beside those that each theorem names. -/
import Derived.Test.YtmohpcgmdheafaaGreatDoorZM4
import Derived.Test.YtmohpcgmdheafaaGreatDoorProg
import Derived.KernelRfl
set_option linter.unusedVariables false
set_option linter.unusedSimpArgs false
namespace Go.Proofs.YtmohpcgmdheafaaGreatDoor
open Go.Am
def ti1:TI:=⟨1,8,[.nilFunc],.func⟩
def ti2:TI:=⟨1,8,[.int .i64 0],.int .i64⟩
def ti3:TI:=⟨1,8,[.int .i64 0],.int .i64⟩
def ti4:TI:=⟨1,1,[.bool false],.bool⟩
def ti5:TI:=⟨1,1,[.int .u8 0],.int .u8⟩
def ti6:TI:=⟨1,1,[.int .u8 0],.int .u8⟩
def ti8:TI:=⟨4,24,[.int .i64 0,.int .i64 0,.bool false,.int .u8 0],.struct [(0,2),(1,3),(2,4),(3,6)]⟩
def ti9:TI:=⟨1,16,[.str []],.string⟩
def Auw:TI:=⟨1,16,[.str []],.string⟩
def Auv:TI:=⟨1,16,[.str []],.string⟩
def Auu:TI:=⟨1,8,[.int .u64 0],.int .u64⟩
def Aut:TI:=⟨1,8,[.nilPtr],.ptr 461⟩
def Aus:TI:=⟨1,8,[.nilPtr],.ptr 464⟩
def Aur:TI:=⟨1,8,[.nilPtr],.ptr 473⟩
def Auq:TI:=⟨1,16,[.nilIface],.iface⟩
def Aup:TI:=⟨1,1,[.int .i8 0],.int .i8⟩
def Auo:TI:=⟨1,24,[.slice .nil 0 []],.slice 78⟩
def Aun:TI:=⟨1,24,[.slice .nil 0 []],.slice 81⟩
def Aum:TI:=⟨1,24,[.slice .nil 0 []],.slice 129⟩
def Yw:TI:=⟨5,88,[.int .i64 0,.int .i64 0,.slice .nil 0 [],.slice .nil 0 [],.slice .nil 0 []],.struct [(0,3),(1,3),(2,23),(3,24),(4,25)]⟩
def Aul:TI:=⟨15,264,[.int .i64 0,.int .i64 0,.slice .nil 0 [],.slice .nil 0 [],.slice .nil 0 [],.int .i64 0,.int .i64 0,.slice .nil 0 [],.slice .nil 0 [],.slice .nil 0 [],.int .i64 0,.int .i64 0,.slice .nil 0 [],.slice .nil 0 [],.slice .nil 0 []],.array 3 27⟩
def Auk:TI:=⟨1,24,[.slice .nil 0 []],.slice 3⟩
def Auj:TI:=⟨1,24,[.slice .nil 0 []],.slice 105⟩
def Qw:TI:=⟨8,96,[.int .i8 0,.int .i64 0,.int .i64 0,.int .i64 0,.int .i64 0,.slice .nil 0 [],.slice .nil 0 [],.int .i64 0],.struct [(0,22),(1,3),(2,3),(3,3),(4,3),(5,29),(6,30),(7,3)]⟩
def Aui:TI:=⟨24,288,[.int .i8 0,.int .i64 0,.int .i64 0,.int .i64 0,.int .i64 0,.slice .nil 0 [],.slice .nil 0 [],.int .i64 0,.int .i8 0,.int .i64 0,.int .i64 0,.int .i64 0,.int .i64 0,.slice .nil 0 [],.slice .nil 0 [],.int .i64 0,.int .i8 0,.int .i64 0,.int .i64 0,.int .i64 0,.int .i64 0,.slice .nil 0 [],.slice .nil 0 [],.int .i64 0],.array 3 32⟩
def Auh:TI:=⟨3,24,[.int .i64 0,.int .i64 0,.int .i64 0],.array 3 3⟩
def Aug:TI:=⟨6,48,[.int .i64 0,.int .i64 0,.int .i64 0,.int .i64 0,.int .i64 0,.int .i64 0],.array 2 34⟩
def Aru:TI:=⟨31,344,[.int .i64 0,.int .i8 0,.int .i64 0,.int .i64 0,.int .i64 0,.int .i64 0,.slice .nil 0 [],.slice .nil 0 [],.int .i64 0,.int .i8 0,.int .i64 0,.int .i64 0,.int .i64 0,.int .i64 0,.slice .nil 0 [],.slice .nil 0 [],.int .i64 0,.int .i8 0,.int .i64 0,.int .i64 0,.int .i64 0,.int .i64 0,.slice .nil 0 [],.slice .nil 0 [],.int .i64 0,.int .i64 0,.int .i64 0,.int .i64 0,.int .i64 0,.int .i64 0,.int .i64 0],.struct [(0,3),(1,33),(25,35)]⟩
def Yv:TI:=⟨47,616,[.int .i8 0,.int .i64 0,.int .i64 0,.slice .nil 0 [],.slice .nil 0 [],.slice .nil 0 [],.int .i64 0,.int .i64 0,.slice .nil 0 [],.slice .nil 0 [],.slice .nil 0 [],.int .i64 0,.int .i64 0,.slice .nil 0 [],.slice .nil 0 [],.slice .nil 0 [],.int .i64 0,.int .i8 0,.int .i64 0,.int .i64 0,.int .i64 0,.int .i64 0,.slice .nil 0 [],.slice .nil 0 [],.int .i64 0,.int .i8 0,.int .i64 0,.int .i64 0,.int .i64 0,.int .i64 0,.slice .nil 0 [],.slice .nil 0 [],.int .i64 0,.int .i8 0,.int .i64 0,.int .i64 0,.int .i64 0,.int .i64 0,.slice .nil 0 [],.slice .nil 0 [],.int .i64 0,.int .i64 0,.int .i64 0,.int .i64 0,.int .i64 0,.int .i64 0,.int .i64 0],.struct [(0,22),(1,28),(16,37)]⟩
def Auf:TI:=⟨1,24,[.slice .nil 0 []],.slice 124⟩
def Yu:TI:=⟨48,640,[.slice .nil 0 [],.int .i8 0,.int .i64 0,.int .i64 0,.slice .nil 0 [],.slice .nil 0 [],.slice .nil 0 [],.int .i64 0,.int .i64 0,.slice .nil 0 [],.slice .nil 0 [],.slice .nil 0 [],.int .i64 0,.int .i64 0,.slice .nil 0 [],.slice .nil 0 [],.slice .nil 0 [],.int .i64 0,.int .i8 0,.int .i64 0,.int .i64 0,.int .i64 0,.int .i64 0,.slice .nil 0 [],.slice .nil 0 [],.int .i64 0,.int .i8 0,.int .i64 0,.int .i64 0,.int .i64 0,.int .i64 0,.slice .nil 0 [],.slice .nil 0 [],.int .i64 0,.int .i8 0,.int .i64 0,.int .i64 0,.int .i64 0,.int .i64 0,.slice .nil 0 [],.slice .nil 0 [],.int .i64 0,.int .i64 0,.int .i64 0,.int .i64 0,.int .i64 0,.int .i64 0,.int .i64 0],.struct [(0,42),(1,39)]⟩
def Aue:TI:=⟨1,8,[.int .i64 0],.int .i64⟩
def Aud:TI:=⟨1,24,[.slice .nil 0 []],.slice 44⟩
def Auc:TI:=⟨6,64,[.int .i8 0,.int .i64 0,.int .i64 0,.int .i64 0,.int .i64 0,.slice .nil 0 []],.struct [(0,22),(1,45),(2,3),(3,3),(4,3),(5,23)]⟩
def Aub:TI:=⟨1,24,[.slice .nil 0 []],.slice 64⟩
def Aua:TI:=⟨5,56,[.int .i64 0,.int .i64 0,.int .i64 0,.bool false,.slice .nil 0 []],.struct [(0,3),(1,3),(2,3),(3,4),(4,58)]⟩
def At9:TI:=⟨15,136,[.int .i8 0,.int .i64 0,.int .i64 0,.int .i64 0,.int .i64 0,.int .i64 0,.int .i64 0,.int .i64 0,.int .i64 0,.bool false,.int .i64 0,.int .i64 0,.int .i64 0,.bool false,.slice .nil 0 []],.struct [(0,22),(1,3),(2,3),(3,3),(4,3),(5,3),(6,3),(7,3),(8,3),(9,4),(10,60)]⟩
def At8:TI:=⟨2,32,[.str [],.str []],.struct [(0,9),(1,9)]⟩
def At7:TI:=⟨1,16,[.nilIface],.iface⟩
def At6:TI:=⟨5,56,[.int .i64 0,.int .i64 0,.int .i64 0,.str [],.str []],.struct [(0,3),(1,3),(2,3),(3,9),(4,9)]⟩
def At5:TI:=⟨1,24,[.slice .nil 0 []],.slice 60⟩
def VQ:TI:=⟨3,40,[.int .i64 0,.int .i64 0,.slice .nil 0 []],.struct [(0,3),(1,3),(2,79)]⟩
def At4:TI:=⟨1,8,[.nilPtr],.ptr 88⟩
def At3:TI:=⟨62,752,[.int .i8 0,.int .i64 0,.int .i64 0,.slice .nil 0 [],.slice .nil 0 [],.slice .nil 0 [],.int .i64 0,.int .i64 0,.slice .nil 0 [],.slice .nil 0 [],.slice .nil 0 [],.int .i64 0,.int .i64 0,.slice .nil 0 [],.slice .nil 0 [],.slice .nil 0 [],.int .i64 0,.int .i8 0,.int .i64 0,.int .i64 0,.int .i64 0,.int .i64 0,.slice .nil 0 [],.slice .nil 0 [],.int .i64 0,.int .i8 0,.int .i64 0,.int .i64 0,.int .i64 0,.int .i64 0,.slice .nil 0 [],.slice .nil 0 [],.int .i64 0,.int .i8 0,.int .i64 0,.int .i64 0,.int .i64 0,.int .i64 0,.slice .nil 0 [],.slice .nil 0 [],.int .i64 0,.int .i64 0,.int .i64 0,.int .i64 0,.int .i64 0,.int .i64 0,.int .i64 0,.int .i8 0,.int .i64 0,.int .i64 0,.int .i64 0,.int .i64 0,.int .i64 0,.int .i64 0,.int .i64 0,.int .i64 0,.bool false,.int .i64 0,.int .i64 0,.int .i64 0,.bool false,.slice .nil 0 []],.struct [(0,39),(47,62)]⟩
def At2:TI:=⟨1,8,[.nilFunc],.func⟩
def At1:TI:=⟨1,8,[.nilMap],.map 22 90⟩
def At0:TI:=⟨1,8,[.nilPtr],.ptr 98⟩
def Atz:TI:=⟨2,24,[.str [],.int .i64 0],.struct [(0,9),(1,45)]⟩
def Aqx:TI:=⟨1,8,[.nilPtr],.ptr 39⟩
def Aqw:TI:=⟨3,24,[.int .i64 0,.int .i64 0,.int .i64 0],.struct [(0,3),(1,3),(2,3)]⟩
def Aqv:TI:=⟨17,168,[.int .i8 0,.int .i64 0,.int .i64 0,.int .i64 0,.int .i64 0,.int .i64 0,.bool false,.int .i64 0,.int .i8 0,.int .i64 0,.int .i64 0,.int .i64 0,.int .i64 0,.slice .nil 0 [],.slice .nil 0 [],.int .i64 0,.int .i64 0],.struct [(0,22),(1,3),(2,3),(3,105),(6,4),(7,3),(8,32),(16,3)]⟩
def Aqu:TI:=⟨1,8,[.nilPtr],.ptr 45⟩
def JK:TI:=⟨4,48,[.int .i8 0,.str [],.str [],.int .i64 0],.struct [(0,22),(1,9),(2,9),(3,3)]⟩
def Aqt:TI:=⟨1,24,[.slice .nil 0 []],.slice 243⟩
def Af9:TI:=⟨4,48,[.int .i64 0,.int .i64 0,.int .i64 0,.slice .nil 0 []],.struct [(0,3),(1,3),(2,3),(3,127)]⟩
def Aqs:TI:=⟨1,24,[.slice .nil 0 []],.slice 5⟩
def Aqr:TI:=⟨1,8,[.nilFunc],.func⟩
def Aqq:TI:=⟨1,24,[.slice .nil 0 []],.slice 32⟩
def Aqp:TI:=⟨1,24,[.slice .nil 0 []],.slice 107⟩
def Aqo:TI:=⟨1,16,[.nilIface],.iface⟩
def Aqn:TI:=⟨1,8,[.nilPtr],.ptr 27⟩
def Aqm:TI:=⟨1,8,[.nilPtr],.ptr 157⟩
def Aql:TI:=⟨1,16,[.nilIface],.struct [(0,69)]⟩
def Aqk:TI:=⟨1,16,[.nilIface],.iface⟩
def Aqj:TI:=⟨1,8,[.int .u64 0],.int .u64⟩
def Aqi:TI:=⟨1,1,[.int .u8 0],.int .u8⟩
def Aqh:TI:=⟨1,8,[.nilFunc],.func⟩
def Aqg:TI:=⟨1,24,[.slice .nil 0 []],.slice 189⟩
def Aqf:TI:=⟨18,192,[.int .i8 0,.int .i64 0,.int .i64 0,.int .i64 0,.bool false,.slice .nil 0 [],.bool false,.int .i64 0,.int .i64 0,.int .i64 0,.int .i64 0,.int .i64 0,.str [],.str [],.int .i64 0,.int .i64 0,.int .i64 0,.slice .nil 0 []],.struct [(0,22),(1,60),(6,4),(7,3),(8,3),(9,78),(14,129)]⟩
def Aqe:TI:=⟨1,8,[.nilPtr],.ptr 201⟩
def Aqd:TI:=⟨1,8,[.nilPtr],.ptr 416⟩
def Aqc:TI:=⟨18,184,[.nilPtr,.int .i8 0,.int .i64 0,.int .i64 0,.int .i64 0,.int .i64 0,.int .i64 0,.int .i64 0,.int .i64 0,.int .i64 0,.bool false,.int .i64 0,.int .i64 0,.int .i64 0,.bool false,.slice .nil 0 [],.slice .nil 0 [],.nilIface],.struct [(0,199),(1,62),(16,130),(17,69)]⟩
def Aqb:TI:=⟨1,8,[.nilPtr],.ptr 206⟩
def Aqa:TI:=⟨2,24,[.str [],.int .i64 0],.struct [(0,9),(1,45)]⟩
def Ap9:TI:=⟨1,8,[.nilPtr],.ptr 37⟩
def Ap8:TI:=⟨1,8,[.nilPtr],.ptr 225⟩
def Ap7:TI:=⟨2,24,[.str [],.int .i64 0],.struct [(0,9),(1,45)]⟩
def Ap6:TI:=⟨1,8,[.nilPtr],.ptr 233⟩
def Ap5:TI:=⟨2,24,[.str [],.int .i64 0],.struct [(0,9),(1,45)]⟩
def Ap4:TI:=⟨2,16,[.int .i8 0,.int .i64 0],.struct [(0,22),(1,3)]⟩
def Ap3:TI:=⟨2,16,[.int .i8 0,.int .i64 0],.struct [(0,235)]⟩
def Ap2:TI:=⟨2,16,[.int .i8 0,.int .i64 0],.struct [(0,235)]⟩
def Ap1:TI:=⟨1,8,[.nilFunc],.func⟩
def Ap0:TI:=⟨3,24,[.int .i64 0,.int .i64 0,.int .i64 0],.struct [(0,3),(1,3),(2,3)]⟩
def Apz:TI:=⟨1,8,[.nilFunc],.func⟩
def Apy:TI:=⟨1,8,[.nilFunc],.func⟩
def Apx:TI:=⟨1,8,[.nilFunc],.func⟩
def Apw:TI:=⟨1,8,[.nilPtr],.ptr 492⟩
def Apv:TI:=⟨1,16,[.nilIface],.iface⟩
def Apu:TI:=⟨1,16,[.nilIface],.iface⟩
def Apt:TI:=⟨1,16,[.nilIface],.iface⟩
def Aps:TI:=⟨1,24,[.slice .nil 0 []],.slice 69⟩
def Apr:TI:=⟨1,16,[.nilIface],.iface⟩
def Apq:TI:=⟨1,8,[.nilFunc],.func⟩
def App:TI:=⟨1,8,[.nilFunc],.func⟩
def Apo:TI:=⟨1,24,[.slice .nil 0 []],.slice 1⟩
def Apn:TI:=⟨1,8,[.nilFunc],.func⟩
def Apm:TI:=⟨1,8,[.nilPtr],.ptr 291⟩
def Apl:TI:=⟨2,24,[.str [],.int .i64 0],.struct [(0,9),(1,45)]⟩
def Apk:TI:=⟨1,8,[.nilFunc],.func⟩
def Apj:TI:=⟨1,8,[.nilPtr],.ptr 306⟩
def Api:TI:=⟨2,24,[.str [],.int .i64 0],.struct [(0,9),(1,45)]⟩
def Aph:TI:=⟨1,8,[.nilPtr],.ptr 309⟩
def Apg:TI:=⟨2,32,[.slice .nil 0 [],.int .i64 0],.struct [(0,130),(1,45)]⟩
def Apf:TI:=⟨1,8,[.nilPtr],.ptr 3⟩
def Ape:TI:=⟨1,8,[.nilPtr],.ptr 107⟩
def Apd:TI:=⟨1,16,[.nilIface],.iface⟩
def Apc:TI:=⟨2,24,[.nilIface,.nilPtr],.struct [(0,314),(1,312)]⟩
def Apb:TI:=⟨1,8,[.nilFunc],.func⟩
def Apa:TI:=⟨1,8,[.nilFunc],.func⟩
def Ao9:TI:=⟨1,8,[.nilFunc],.func⟩
def Ao8:TI:=⟨1,8,[.int .u64 0],.int .u64⟩
def Ao7:TI:=⟨1,8,[.nilFunc],.func⟩
def Ao6:TI:=⟨1,8,[.nilFunc],.func⟩
def Ao5:TI:=⟨1,24,[.slice .nil 0 []],.slice 9⟩
def Ao4:TI:=⟨1,8,[.nilFunc],.func⟩
def Ao3:TI:=⟨31,344,[.int .i64 0,.int .i8 0,.int .i64 0,.int .i64 0,.int .i64 0,.int .i64 0,.slice .nil 0 [],.slice .nil 0 [],.int .i64 0,.int .i8 0,.int .i64 0,.int .i64 0,.int .i64 0,.int .i64 0,.slice .nil 0 [],.slice .nil 0 [],.int .i64 0,.int .i8 0,.int .i64 0,.int .i64 0,.int .i64 0,.int .i64 0,.slice .nil 0 [],.slice .nil 0 [],.int .i64 0,.int .i64 0,.int .i64 0,.int .i64 0,.int .i64 0,.int .i64 0,.int .i64 0],.struct [(0,37)]⟩
def Ao2:TI:=⟨1,8,[.nilFunc],.func⟩
def Ao1:TI:=⟨1,8,[.nilFunc],.func⟩
def Ao0:TI:=⟨1,8,[.nilFunc],.func⟩
def Aoz:TI:=⟨1,8,[.nilFunc],.func⟩
def Aoy:TI:=⟨1,8,[.nilFunc],.func⟩
def Aox:TI:=⟨8,64,[.nilFunc,.nilFunc,.nilFunc,.nilFunc,.nilFunc,.nilFunc,.nilFunc,.nilFunc],.array 8 368⟩
def Aow:TI:=⟨1,8,[.nilPtr],.ptr 372⟩
def Aov:TI:=⟨1,8,[.int .i64 0],.struct [(0,45)]⟩
def Af8:TI:=⟨4,4,[.int .u8 0,.int .u8 0,.int .u8 0,.int .u8 0],.array 4 5⟩
def Aou:TI:=⟨1,8,[.nilFunc],.func⟩
def Aot:TI:=⟨1,8,[.nilFunc],.func⟩
def Aos:TI:=⟨1,8,[.nilFunc],.func⟩
def Aor:TI:=⟨1,8,[.nilPtr],.ptr 400⟩
def Aoq:TI:=⟨2,24,[.str [],.int .i64 0],.struct [(0,9),(1,45)]⟩
def Aop:TI:=⟨1,8,[.nilPtr],.ptr 105⟩
def Aoo:TI:=⟨1,8,[.nilPtr],.ptr 4⟩
def Aon:TI:=⟨1,8,[.nilPtr],.ptr 414⟩
def Aom:TI:=⟨2,24,[.str [],.int .i64 0],.struct [(0,9),(1,45)]⟩
def Aol:TI:=⟨3,32,[.str [],.int .i64 0,.bool false],.struct [(0,9),(1,3),(2,4)]⟩
def Aok:TI:=⟨1,8,[.nilFunc],.func⟩
def Aoj:TI:=⟨1,8,[.nilPtr],.ptr 422⟩
def Aoi:TI:=⟨2,16,[.int .i64 0,.int .i64 0],.struct [(0,3),(1,45)]⟩
def Aoh:TI:=⟨1,8,[.nilFunc],.func⟩
def Aog:TI:=⟨1,8,[.nilPtr],.ptr 428⟩
def Aof:TI:=⟨2,16,[.int .i64 0,.int .i64 0],.struct [(0,3),(1,45)]⟩
def Aoe:TI:=⟨1,8,[.nilPtr],.ptr 431⟩
def Aod:TI:=⟨2,32,[.slice .nil 0 [],.int .i64 0],.struct [(0,130),(1,45)]⟩
def Aoc:TI:=⟨1,8,[.nilFunc],.func⟩
def Aob:TI:=⟨1,8,[.nilFunc],.func⟩
def Aoa:TI:=⟨1,8,[.nilPtr],.ptr 442⟩
def An9:TI:=⟨2,24,[.str [],.int .i64 0],.struct [(0,9),(1,45)]⟩
def An8:TI:=⟨1,24,[.slice .nil 0 []],.slice 130⟩
def An7:TI:=⟨7,56,[.nilFunc,.nilFunc,.nilFunc,.nilFunc,.nilFunc,.nilFunc,.nilFunc],.array 7 432⟩
def An6:TI:=⟨2,32,[.slice .nil 0 [],.int .i64 0],.struct [(0,130),(1,3)]⟩
def An5:TI:=⟨1,8,[.nilPtr],.ptr 449⟩
def An4:TI:=⟨1,8,[.nilPtr],.ptr 458⟩
def An3:TI:=⟨2,16,[.int .i64 0,.int .i64 0],.struct [(0,3),(1,45)]⟩
def An2:TI:=⟨1,4,[.int .u32 0],.int .u32⟩
def An1:TI:=⟨1,4,[.int .i32 0],.int .i32⟩
def An0:TI:=⟨1,4,[.int .i32 0],.int .i32⟩
def Anz:TI:=⟨24,24,[.int .u8 0,.int .u8 0,.int .u8 0,.int .u8 0,.int .u8 0,.int .u8 0,.int .u8 0,.int .u8 0,.int .u8 0,.int .u8 0,.int .u8 0,.int .u8 0,.int .u8 0,.int .u8 0,.int .u8 0,.int .u8 0,.int .u8 0,.int .u8 0,.int .u8 0,.int .u8 0,.int .u8 0,.int .u8 0,.int .u8 0,.int .u8 0],.array 24 5⟩
def Any:TI:=⟨1,8,[.int .u64 0],.int .u64⟩
def Anx:TI:=⟨20,160,[.int .u64 0,.int .u64 0,.int .u64 0,.int .u64 0,.int .u64 0,.int .u64 0,.int .u64 0,.int .u64 0,.int .u64 0,.int .u64 0,.int .u64 0,.int .u64 0,.int .u64 0,.int .u64 0,.int .u64 0,.int .u64 0,.int .u64 0,.int .u64 0,.int .u64 0,.int .u64 0],.array 20 478⟩
def Anw:TI:=⟨32,32,[.int .u8 0,.int .u8 0,.int .u8 0,.int .u8 0,.int .u8 0,.int .u8 0,.int .u8 0,.int .u8 0,.int .u8 0,.int .u8 0,.int .u8 0,.int .u8 0,.int .u8 0,.int .u8 0,.int .u8 0,.int .u8 0,.int .u8 0,.int .u8 0,.int .u8 0,.int .u8 0,.int .u8 0,.int .u8 0,.int .u8 0,.int .u8 0,.int .u8 0,.int .u8 0,.int .u8 0,.int .u8 0,.int .u8 0,.int .u8 0,.int .u8 0,.int .u8 0],.array 32 5⟩
def Anv:TI:=⟨64,64,[.int .u8 0,.int .u8 0,.int .u8 0,.int .u8 0,.int .u8 0,.int .u8 0,.int .u8 0,.int .u8 0,.int .u8 0,.int .u8 0,.int .u8 0,.int .u8 0,.int .u8 0,.int .u8 0,.int .u8 0,.int .u8 0,.int .u8 0,.int .u8 0,.int .u8 0,.int .u8 0,.int .u8 0,.int .u8 0,.int .u8 0,.int .u8 0,.int .u8 0,.int .u8 0,.int .u8 0,.int .u8 0,.int .u8 0,.int .u8 0,.int .u8 0,.int .u8 0,.int .u8 0,.int .u8 0,.int .u8 0,.int .u8 0,.int .u8 0,.int .u8 0,.int .u8 0,.int .u8 0,.int .u8 0,.int .u8 0,.int .u8 0,.int .u8 0,.int .u8 0,.int .u8 0,.int .u8 0,.int .u8 0,.int .u8 0,.int .u8 0,.int .u8 0,.int .u8 0,.int .u8 0,.int .u8 0,.int .u8 0,.int .u8 0,.int .u8 0,.int .u8 0,.int .u8 0,.int .u8 0,.int .u8 0,.int .u8 0,.int .u8 0,.int .u8 0],.array 64 5⟩
def Anu:TI:=⟨1,8,[.nilPtr],.ptr 497⟩
def Ant:TI:=⟨1,24,[.slice .nil 0 []],.slice 501⟩
def Ans:TI:=⟨1,4,[.int .i32 0],.int .i32⟩
def Anr:TI:=⟨1,8,[.nilPtr],.ptr 69⟩
def te:TE:=[(1,ti1),(2,ti2),(3,ti3),(4,ti4),(5,ti5),(6,ti6),(8,ti8),(9,ti9),(10,Auw),(11,Auv),(12,Auu),(15,Aut),(16,Aus),(17,Aur),(20,Auq),(22,Aup),(23,Auo),(24,Aun),(25,Aum),(27,Yw),(28,Aul),(29,Auk),(30,Auj),(32,Qw),(33,Aui),(34,Auh),(35,Aug),(37,Aru),(39,Yv),(42,Auf),(44,Yu),(45,Aue),(49,Aud),(55,Auc),(58,Aub),(60,Aua),(62,At9),(64,At8),(69,At7),(78,At6),(79,At5),(81,VQ),(85,At4),(88,At3),(90,At2),(92,At1),(96,At0),(98,Atz),(103,Aqx),(105,Aqw),(107,Aqv),(116,Aqu),(124,JK),(127,Aqt),(129,Af9),(130,Aqs),(133,Aqr),(134,Aqq),(142,Aqp),(144,Aqo),(151,Aqn),(155,Aqm),(157,Aql),(161,Aqk),(165,Aqj),(170,Aqi),(174,Aqh),(175,Aqg),(189,Aqf),(198,Aqe),(199,Aqd),(201,Aqc),(204,Aqb),(206,Aqa),(222,Ap9),(223,Ap8),(225,Ap7),(231,Ap6),(233,Ap5),(235,Ap4),(237,Ap3),(238,Ap2),(240,Ap1),(243,Ap0),(245,Apz),(249,Apy),(253,Apx),(256,Apw),(257,Apv),(260,Apu),(262,Apt),(263,Aps),(267,Apr),(274,Apq),(278,App),(282,Apo),(285,Apn),(289,Apm),(291,Apl),(299,Apk),(304,Apj),(306,Api),(307,Aph),(309,Apg),(311,Apf),(312,Ape),(314,Apd),(316,Apc),(319,Apb),(322,Apa),(324,Ao9),(329,Ao8),(338,Ao7),(348,Ao6),(350,Ao5),(354,Ao4),(356,Ao3),(357,Ao2),(359,Ao1),(364,Ao0),(366,Aoz),(368,Aoy),(369,Aox),(370,Aow),(372,Aov),(374,Af8),(377,Aou),(389,Aot),(396,Aos),(398,Aor),(400,Aoq),(403,Aop),(405,Aoo),(412,Aon),(414,Aom),(416,Aol),(417,Aok),(420,Aoj),(422,Aoi),(423,Aoh),(426,Aog),(428,Aof),(429,Aoe),(431,Aod),(432,Aoc),(434,Aob),(440,Aoa),(442,An9),(445,An8),(447,An7),(449,An6),(455,An5),(456,An4),(458,An3),(466,An2),(470,An1),(471,An0),(477,Anz),(478,Any),(484,Anx),(488,Anw),(489,Anv),(493,Anu),(498,Ant),(499,Ans),(502,Anr)]
theorem Aux:CX Tryz.prog []:=fun t ti h=>by cases h
theorem Aq {t:Nat} {ti:TI} {r:TE} (h:TeOk1 Tryz.prog t ti) (hr:CX Tryz.prog r):CX Tryz.prog ((t,ti)::r):=fun u ui hu=>by
 rw[Ao]at hu
 split at hu
 ·rename_i e;subst e;cases hu;exact h
 ·exact hr u ui hu
theorem te1:TeOk1 Tryz.prog 1 ti1:=⟨Ab,Ab,Ab,Ab,fun _=>rfl,fun h=>by cases h⟩
theorem te2:TeOk1 Tryz.prog 2 ti2:=⟨Ab,Ab,Ab,Ab,fun _=>rfl,fun h=>by cases h⟩
theorem te3:TeOk1 Tryz.prog 3 ti3:=⟨Ab,Ab,Ab,Ab,fun _=>rfl,fun h=>by cases h⟩
theorem te4:TeOk1 Tryz.prog 4 ti4:=⟨Ab,Ab,Ab,Ab,fun _=>rfl,fun h=>by cases h⟩
theorem te5:TeOk1 Tryz.prog 5 ti5:=⟨Ab,Ab,Ab,Ab,fun _=>rfl,fun h=>by cases h⟩
theorem te6:TeOk1 Tryz.prog 6 ti6:=⟨Ab,Ab,Ab,Ab,fun _=>rfl,fun h=>by cases h⟩
theorem te8:TeOk1 Tryz.prog 8 ti8:=⟨Ab,Ab,Ab,Ab,fun h=>absurd h Ae,fun _=>Ab⟩
theorem te9:TeOk1 Tryz.prog 9 ti9:=⟨Ab,Ab,Ab,Ab,fun _=>rfl,fun h=>by cases h⟩
theorem A0q:TeOk1 Tryz.prog 10 Auw:=⟨Ab,Ab,Ab,Ab,fun _=>rfl,fun h=>by cases h⟩
theorem A0p:TeOk1 Tryz.prog 11 Auv:=⟨Ab,Ab,Ab,Ab,fun _=>rfl,fun h=>by cases h⟩
theorem A0o:TeOk1 Tryz.prog 12 Auu:=⟨Ab,Ab,Ab,Ab,fun _=>rfl,fun h=>by cases h⟩
theorem A0n:TeOk1 Tryz.prog 15 Aut:=⟨Ab,Ab,Ab,Ab,fun _=>rfl,fun h=>by cases h⟩
theorem A0m:TeOk1 Tryz.prog 16 Aus:=⟨Ab,Ab,Ab,Ab,fun _=>rfl,fun h=>by cases h⟩
theorem A0l:TeOk1 Tryz.prog 17 Aur:=⟨Ab,Ab,Ab,Ab,fun _=>rfl,fun h=>by cases h⟩
theorem A0k:TeOk1 Tryz.prog 20 Auq:=⟨Ab,Ab,Ab,Ab,fun _=>rfl,fun h=>by cases h⟩
theorem A0j:TeOk1 Tryz.prog 22 Aup:=⟨Ab,Ab,Ab,Ab,fun _=>rfl,fun h=>by cases h⟩
theorem A0i:TeOk1 Tryz.prog 23 Auo:=⟨Ab,Ab,Ab,Ab,fun _=>rfl,fun h=>by cases h⟩
theorem A0h:TeOk1 Tryz.prog 24 Aun:=⟨Ab,Ab,Ab,Ab,fun _=>rfl,fun h=>by cases h⟩
theorem A0g:TeOk1 Tryz.prog 25 Aum:=⟨Ab,Ab,Ab,Ab,fun _=>rfl,fun h=>by cases h⟩
theorem A0f:TeOk1 Tryz.prog 27 Yw:=⟨Ab,Ab,Ab,Ab,fun h=>absurd h Ae,fun _=>Ab⟩
theorem A0e:TeOk1 Tryz.prog 28 Aul:=⟨Ab,Ab,Ab,Ab,fun h=>absurd h Ae,fun h=>by cases h⟩
theorem A0d:TeOk1 Tryz.prog 29 Auk:=⟨Ab,Ab,Ab,Ab,fun _=>rfl,fun h=>by cases h⟩
theorem A0c:TeOk1 Tryz.prog 30 Auj:=⟨Ab,Ab,Ab,Ab,fun _=>rfl,fun h=>by cases h⟩
theorem A0b:TeOk1 Tryz.prog 32 Qw:=⟨Ab,Ab,Ab,Ab,fun h=>absurd h Ae,fun _=>Ab⟩
theorem A0a:TeOk1 Tryz.prog 33 Aui:=⟨Ab,Ab,Ab,Ab,fun h=>absurd h Ae,fun h=>by cases h⟩
theorem Az9:TeOk1 Tryz.prog 34 Auh:=⟨Ab,Ab,Ab,Ab,fun h=>absurd h Ae,fun h=>by cases h⟩
theorem Az8:TeOk1 Tryz.prog 35 Aug:=⟨Ab,Ab,Ab,Ab,fun h=>absurd h Ae,fun h=>by cases h⟩
theorem Az7:TeOk1 Tryz.prog 37 Aru:=⟨Ab,Ab,Ab,Ab,fun h=>absurd h Ae,fun _=>Ab⟩
theorem Az6:TeOk1 Tryz.prog 39 Yv:=⟨Ab,Ab,Ab,Ab,fun h=>absurd h Ae,fun _=>Ab⟩
theorem Az5:TeOk1 Tryz.prog 42 Auf:=⟨Ab,Ab,Ab,Ab,fun _=>rfl,fun h=>by cases h⟩
theorem Az4:TeOk1 Tryz.prog 44 Yu:=⟨Ab,Ab,Ab,Ab,fun h=>absurd h Ae,fun _=>Ab⟩
theorem Az3:TeOk1 Tryz.prog 45 Aue:=⟨Ab,Ab,Ab,Ab,fun _=>rfl,fun h=>by cases h⟩
theorem Az2:TeOk1 Tryz.prog 49 Aud:=⟨Ab,Ab,Ab,Ab,fun _=>rfl,fun h=>by cases h⟩
theorem Az1:TeOk1 Tryz.prog 55 Auc:=⟨Ab,Ab,Ab,Ab,fun h=>absurd h Ae,fun _=>Ab⟩
theorem Az0:TeOk1 Tryz.prog 58 Aub:=⟨Ab,Ab,Ab,Ab,fun _=>rfl,fun h=>by cases h⟩
theorem Azz:TeOk1 Tryz.prog 60 Aua:=⟨Ab,Ab,Ab,Ab,fun h=>absurd h Ae,fun _=>Ab⟩
theorem Azy:TeOk1 Tryz.prog 62 At9:=⟨Ab,Ab,Ab,Ab,fun h=>absurd h Ae,fun _=>Ab⟩
theorem Azx:TeOk1 Tryz.prog 64 At8:=⟨Ab,Ab,Ab,Ab,fun h=>absurd h Ae,fun _=>Ab⟩
theorem Azw:TeOk1 Tryz.prog 69 At7:=⟨Ab,Ab,Ab,Ab,fun _=>rfl,fun h=>by cases h⟩
theorem Azv:TeOk1 Tryz.prog 78 At6:=⟨Ab,Ab,Ab,Ab,fun h=>absurd h Ae,fun _=>Ab⟩
theorem Azu:TeOk1 Tryz.prog 79 At5:=⟨Ab,Ab,Ab,Ab,fun _=>rfl,fun h=>by cases h⟩
theorem Azt:TeOk1 Tryz.prog 81 VQ:=⟨Ab,Ab,Ab,Ab,fun h=>absurd h Ae,fun _=>Ab⟩
theorem Azs:TeOk1 Tryz.prog 85 At4:=⟨Ab,Ab,Ab,Ab,fun _=>rfl,fun h=>by cases h⟩
theorem Azr:TeOk1 Tryz.prog 88 At3:=⟨Ab,Ab,Ab,Ab,fun h=>absurd h Ae,fun _=>Ab⟩
theorem Azq:TeOk1 Tryz.prog 90 At2:=⟨Ab,Ab,Ab,Ab,fun _=>rfl,fun h=>by cases h⟩
theorem Azp:TeOk1 Tryz.prog 92 At1:=⟨Ab,Ab,Ab,Ab,fun _=>rfl,fun h=>by cases h⟩
theorem Azo:TeOk1 Tryz.prog 96 At0:=⟨Ab,Ab,Ab,Ab,fun _=>rfl,fun h=>by cases h⟩
theorem Azn:TeOk1 Tryz.prog 98 Atz:=⟨Ab,Ab,Ab,Ab,fun h=>absurd h Ae,fun _=>Ab⟩
theorem Ax7:TeOk1 Tryz.prog 103 Aqx:=⟨Ab,Ab,Ab,Ab,fun _=>rfl,fun h=>by cases h⟩
theorem Ax6:TeOk1 Tryz.prog 105 Aqw:=⟨Ab,Ab,Ab,Ab,fun h=>absurd h Ae,fun _=>Ab⟩
theorem Ax5:TeOk1 Tryz.prog 107 Aqv:=⟨Ab,Ab,Ab,Ab,fun h=>absurd h Ae,fun _=>Ab⟩
theorem Ax4:TeOk1 Tryz.prog 116 Aqu:=⟨Ab,Ab,Ab,Ab,fun _=>rfl,fun h=>by cases h⟩
theorem Ax3:TeOk1 Tryz.prog 124 JK:=⟨Ab,Ab,Ab,Ab,fun h=>absurd h Ae,fun _=>Ab⟩
theorem Ax2:TeOk1 Tryz.prog 127 Aqt:=⟨Ab,Ab,Ab,Ab,fun _=>rfl,fun h=>by cases h⟩
theorem Ax1:TeOk1 Tryz.prog 129 Af9:=⟨Ab,Ab,Ab,Ab,fun h=>absurd h Ae,fun _=>Ab⟩
theorem Ax0:TeOk1 Tryz.prog 130 Aqs:=⟨Ab,Ab,Ab,Ab,fun _=>rfl,fun h=>by cases h⟩
theorem Axz:TeOk1 Tryz.prog 133 Aqr:=⟨Ab,Ab,Ab,Ab,fun _=>rfl,fun h=>by cases h⟩
theorem Axy:TeOk1 Tryz.prog 134 Aqq:=⟨Ab,Ab,Ab,Ab,fun _=>rfl,fun h=>by cases h⟩
theorem Axx:TeOk1 Tryz.prog 142 Aqp:=⟨Ab,Ab,Ab,Ab,fun _=>rfl,fun h=>by cases h⟩
theorem Axw:TeOk1 Tryz.prog 144 Aqo:=⟨Ab,Ab,Ab,Ab,fun _=>rfl,fun h=>by cases h⟩
theorem Axv:TeOk1 Tryz.prog 151 Aqn:=⟨Ab,Ab,Ab,Ab,fun _=>rfl,fun h=>by cases h⟩
theorem Axu:TeOk1 Tryz.prog 155 Aqm:=⟨Ab,Ab,Ab,Ab,fun _=>rfl,fun h=>by cases h⟩
theorem Axt:TeOk1 Tryz.prog 157 Aql:=⟨Ab,Ab,Ab,Ab,fun h=>absurd h Ae,fun _=>Ab⟩
theorem Axs:TeOk1 Tryz.prog 161 Aqk:=⟨Ab,Ab,Ab,Ab,fun _=>rfl,fun h=>by cases h⟩
theorem Axr:TeOk1 Tryz.prog 165 Aqj:=⟨Ab,Ab,Ab,Ab,fun _=>rfl,fun h=>by cases h⟩
theorem Axq:TeOk1 Tryz.prog 170 Aqi:=⟨Ab,Ab,Ab,Ab,fun _=>rfl,fun h=>by cases h⟩
theorem Axp:TeOk1 Tryz.prog 174 Aqh:=⟨Ab,Ab,Ab,Ab,fun _=>rfl,fun h=>by cases h⟩
theorem Axo:TeOk1 Tryz.prog 175 Aqg:=⟨Ab,Ab,Ab,Ab,fun _=>rfl,fun h=>by cases h⟩
theorem Axn:TeOk1 Tryz.prog 189 Aqf:=⟨Ab,Ab,Ab,Ab,fun h=>absurd h Ae,fun _=>Ab⟩
theorem Axm:TeOk1 Tryz.prog 198 Aqe:=⟨Ab,Ab,Ab,Ab,fun _=>rfl,fun h=>by cases h⟩
theorem Axl:TeOk1 Tryz.prog 199 Aqd:=⟨Ab,Ab,Ab,Ab,fun _=>rfl,fun h=>by cases h⟩
theorem Axk:TeOk1 Tryz.prog 201 Aqc:=⟨Ab,Ab,Ab,Ab,fun h=>absurd h Ae,fun _=>Ab⟩
theorem Axj:TeOk1 Tryz.prog 204 Aqb:=⟨Ab,Ab,Ab,Ab,fun _=>rfl,fun h=>by cases h⟩
theorem Axi:TeOk1 Tryz.prog 206 Aqa:=⟨Ab,Ab,Ab,Ab,fun h=>absurd h Ae,fun _=>Ab⟩
theorem Axh:TeOk1 Tryz.prog 222 Ap9:=⟨Ab,Ab,Ab,Ab,fun _=>rfl,fun h=>by cases h⟩
theorem Axg:TeOk1 Tryz.prog 223 Ap8:=⟨Ab,Ab,Ab,Ab,fun _=>rfl,fun h=>by cases h⟩
theorem Axf:TeOk1 Tryz.prog 225 Ap7:=⟨Ab,Ab,Ab,Ab,fun h=>absurd h Ae,fun _=>Ab⟩
theorem Axe:TeOk1 Tryz.prog 231 Ap6:=⟨Ab,Ab,Ab,Ab,fun _=>rfl,fun h=>by cases h⟩
theorem Axd:TeOk1 Tryz.prog 233 Ap5:=⟨Ab,Ab,Ab,Ab,fun h=>absurd h Ae,fun _=>Ab⟩
theorem Axc:TeOk1 Tryz.prog 235 Ap4:=⟨Ab,Ab,Ab,Ab,fun h=>absurd h Ae,fun _=>Ab⟩
theorem Axb:TeOk1 Tryz.prog 237 Ap3:=⟨Ab,Ab,Ab,Ab,fun h=>absurd h Ae,fun _=>Ab⟩
theorem Axa:TeOk1 Tryz.prog 238 Ap2:=⟨Ab,Ab,Ab,Ab,fun h=>absurd h Ae,fun _=>Ab⟩
theorem Aw9:TeOk1 Tryz.prog 240 Ap1:=⟨Ab,Ab,Ab,Ab,fun _=>rfl,fun h=>by cases h⟩
theorem Aw8:TeOk1 Tryz.prog 243 Ap0:=⟨Ab,Ab,Ab,Ab,fun h=>absurd h Ae,fun _=>Ab⟩
theorem Aw7:TeOk1 Tryz.prog 245 Apz:=⟨Ab,Ab,Ab,Ab,fun _=>rfl,fun h=>by cases h⟩
theorem Aw6:TeOk1 Tryz.prog 249 Apy:=⟨Ab,Ab,Ab,Ab,fun _=>rfl,fun h=>by cases h⟩
theorem Aw5:TeOk1 Tryz.prog 253 Apx:=⟨Ab,Ab,Ab,Ab,fun _=>rfl,fun h=>by cases h⟩
theorem Aw4:TeOk1 Tryz.prog 256 Apw:=⟨Ab,Ab,Ab,Ab,fun _=>rfl,fun h=>by cases h⟩
theorem Aw3:TeOk1 Tryz.prog 257 Apv:=⟨Ab,Ab,Ab,Ab,fun _=>rfl,fun h=>by cases h⟩
theorem Aw2:TeOk1 Tryz.prog 260 Apu:=⟨Ab,Ab,Ab,Ab,fun _=>rfl,fun h=>by cases h⟩
theorem Aw1:TeOk1 Tryz.prog 262 Apt:=⟨Ab,Ab,Ab,Ab,fun _=>rfl,fun h=>by cases h⟩
theorem Aw0:TeOk1 Tryz.prog 263 Aps:=⟨Ab,Ab,Ab,Ab,fun _=>rfl,fun h=>by cases h⟩
theorem Awz:TeOk1 Tryz.prog 267 Apr:=⟨Ab,Ab,Ab,Ab,fun _=>rfl,fun h=>by cases h⟩
theorem Awy:TeOk1 Tryz.prog 274 Apq:=⟨Ab,Ab,Ab,Ab,fun _=>rfl,fun h=>by cases h⟩
theorem Awx:TeOk1 Tryz.prog 278 App:=⟨Ab,Ab,Ab,Ab,fun _=>rfl,fun h=>by cases h⟩
theorem Aww:TeOk1 Tryz.prog 282 Apo:=⟨Ab,Ab,Ab,Ab,fun _=>rfl,fun h=>by cases h⟩
theorem Awv:TeOk1 Tryz.prog 285 Apn:=⟨Ab,Ab,Ab,Ab,fun _=>rfl,fun h=>by cases h⟩
theorem Awu:TeOk1 Tryz.prog 289 Apm:=⟨Ab,Ab,Ab,Ab,fun _=>rfl,fun h=>by cases h⟩
theorem Awt:TeOk1 Tryz.prog 291 Apl:=⟨Ab,Ab,Ab,Ab,fun h=>absurd h Ae,fun _=>Ab⟩
theorem Aws:TeOk1 Tryz.prog 299 Apk:=⟨Ab,Ab,Ab,Ab,fun _=>rfl,fun h=>by cases h⟩
theorem Awr:TeOk1 Tryz.prog 304 Apj:=⟨Ab,Ab,Ab,Ab,fun _=>rfl,fun h=>by cases h⟩
theorem Awq:TeOk1 Tryz.prog 306 Api:=⟨Ab,Ab,Ab,Ab,fun h=>absurd h Ae,fun _=>Ab⟩
theorem Awp:TeOk1 Tryz.prog 307 Aph:=⟨Ab,Ab,Ab,Ab,fun _=>rfl,fun h=>by cases h⟩
theorem Awo:TeOk1 Tryz.prog 309 Apg:=⟨Ab,Ab,Ab,Ab,fun h=>absurd h Ae,fun _=>Ab⟩
theorem Awn:TeOk1 Tryz.prog 311 Apf:=⟨Ab,Ab,Ab,Ab,fun _=>rfl,fun h=>by cases h⟩
theorem Awm:TeOk1 Tryz.prog 312 Ape:=⟨Ab,Ab,Ab,Ab,fun _=>rfl,fun h=>by cases h⟩
theorem Awl:TeOk1 Tryz.prog 314 Apd:=⟨Ab,Ab,Ab,Ab,fun _=>rfl,fun h=>by cases h⟩
theorem Awk:TeOk1 Tryz.prog 316 Apc:=⟨Ab,Ab,Ab,Ab,fun h=>absurd h Ae,fun _=>Ab⟩
theorem Awj:TeOk1 Tryz.prog 319 Apb:=⟨Ab,Ab,Ab,Ab,fun _=>rfl,fun h=>by cases h⟩
theorem Awi:TeOk1 Tryz.prog 322 Apa:=⟨Ab,Ab,Ab,Ab,fun _=>rfl,fun h=>by cases h⟩
theorem Awh:TeOk1 Tryz.prog 324 Ao9:=⟨Ab,Ab,Ab,Ab,fun _=>rfl,fun h=>by cases h⟩
theorem Awg:TeOk1 Tryz.prog 329 Ao8:=⟨Ab,Ab,Ab,Ab,fun _=>rfl,fun h=>by cases h⟩
theorem Awf:TeOk1 Tryz.prog 338 Ao7:=⟨Ab,Ab,Ab,Ab,fun _=>rfl,fun h=>by cases h⟩
theorem Awe:TeOk1 Tryz.prog 348 Ao6:=⟨Ab,Ab,Ab,Ab,fun _=>rfl,fun h=>by cases h⟩
theorem Awd:TeOk1 Tryz.prog 350 Ao5:=⟨Ab,Ab,Ab,Ab,fun _=>rfl,fun h=>by cases h⟩
theorem Awc:TeOk1 Tryz.prog 354 Ao4:=⟨Ab,Ab,Ab,Ab,fun _=>rfl,fun h=>by cases h⟩
theorem Awb:TeOk1 Tryz.prog 356 Ao3:=⟨Ab,Ab,Ab,Ab,fun h=>absurd h Ae,fun _=>Ab⟩
theorem Awa:TeOk1 Tryz.prog 357 Ao2:=⟨Ab,Ab,Ab,Ab,fun _=>rfl,fun h=>by cases h⟩
theorem Av9:TeOk1 Tryz.prog 359 Ao1:=⟨Ab,Ab,Ab,Ab,fun _=>rfl,fun h=>by cases h⟩
theorem Av8:TeOk1 Tryz.prog 364 Ao0:=⟨Ab,Ab,Ab,Ab,fun _=>rfl,fun h=>by cases h⟩
theorem Av7:TeOk1 Tryz.prog 366 Aoz:=⟨Ab,Ab,Ab,Ab,fun _=>rfl,fun h=>by cases h⟩
theorem Av6:TeOk1 Tryz.prog 368 Aoy:=⟨Ab,Ab,Ab,Ab,fun _=>rfl,fun h=>by cases h⟩
theorem Av5:TeOk1 Tryz.prog 369 Aox:=⟨Ab,Ab,Ab,Ab,fun h=>absurd h Ae,fun h=>by cases h⟩
theorem Av4:TeOk1 Tryz.prog 370 Aow:=⟨Ab,Ab,Ab,Ab,fun _=>rfl,fun h=>by cases h⟩
theorem Av3:TeOk1 Tryz.prog 372 Aov:=⟨Ab,Ab,Ab,Ab,fun h=>absurd h Ae,fun _=>Ab⟩
theorem Av2:TeOk1 Tryz.prog 374 Af8:=⟨Ab,Ab,Ab,Ab,fun h=>absurd h Ae,fun h=>by cases h⟩
theorem Av1:TeOk1 Tryz.prog 377 Aou:=⟨Ab,Ab,Ab,Ab,fun _=>rfl,fun h=>by cases h⟩
theorem Av0:TeOk1 Tryz.prog 389 Aot:=⟨Ab,Ab,Ab,Ab,fun _=>rfl,fun h=>by cases h⟩
theorem Avz:TeOk1 Tryz.prog 396 Aos:=⟨Ab,Ab,Ab,Ab,fun _=>rfl,fun h=>by cases h⟩
theorem Avy:TeOk1 Tryz.prog 398 Aor:=⟨Ab,Ab,Ab,Ab,fun _=>rfl,fun h=>by cases h⟩
theorem Avx:TeOk1 Tryz.prog 400 Aoq:=⟨Ab,Ab,Ab,Ab,fun h=>absurd h Ae,fun _=>Ab⟩
theorem Avw:TeOk1 Tryz.prog 403 Aop:=⟨Ab,Ab,Ab,Ab,fun _=>rfl,fun h=>by cases h⟩
theorem Avv:TeOk1 Tryz.prog 405 Aoo:=⟨Ab,Ab,Ab,Ab,fun _=>rfl,fun h=>by cases h⟩
theorem Avu:TeOk1 Tryz.prog 412 Aon:=⟨Ab,Ab,Ab,Ab,fun _=>rfl,fun h=>by cases h⟩
theorem Avt:TeOk1 Tryz.prog 414 Aom:=⟨Ab,Ab,Ab,Ab,fun h=>absurd h Ae,fun _=>Ab⟩
theorem Avs:TeOk1 Tryz.prog 416 Aol:=⟨Ab,Ab,Ab,Ab,fun h=>absurd h Ae,fun _=>Ab⟩
theorem Avr:TeOk1 Tryz.prog 417 Aok:=⟨Ab,Ab,Ab,Ab,fun _=>rfl,fun h=>by cases h⟩
theorem Avq:TeOk1 Tryz.prog 420 Aoj:=⟨Ab,Ab,Ab,Ab,fun _=>rfl,fun h=>by cases h⟩
theorem Avp:TeOk1 Tryz.prog 422 Aoi:=⟨Ab,Ab,Ab,Ab,fun h=>absurd h Ae,fun _=>Ab⟩
theorem Avo:TeOk1 Tryz.prog 423 Aoh:=⟨Ab,Ab,Ab,Ab,fun _=>rfl,fun h=>by cases h⟩
theorem Avn:TeOk1 Tryz.prog 426 Aog:=⟨Ab,Ab,Ab,Ab,fun _=>rfl,fun h=>by cases h⟩
theorem Avm:TeOk1 Tryz.prog 428 Aof:=⟨Ab,Ab,Ab,Ab,fun h=>absurd h Ae,fun _=>Ab⟩
theorem Avl:TeOk1 Tryz.prog 429 Aoe:=⟨Ab,Ab,Ab,Ab,fun _=>rfl,fun h=>by cases h⟩
theorem Avk:TeOk1 Tryz.prog 431 Aod:=⟨Ab,Ab,Ab,Ab,fun h=>absurd h Ae,fun _=>Ab⟩
theorem Avj:TeOk1 Tryz.prog 432 Aoc:=⟨Ab,Ab,Ab,Ab,fun _=>rfl,fun h=>by cases h⟩
theorem Avi:TeOk1 Tryz.prog 434 Aob:=⟨Ab,Ab,Ab,Ab,fun _=>rfl,fun h=>by cases h⟩
theorem Avh:TeOk1 Tryz.prog 440 Aoa:=⟨Ab,Ab,Ab,Ab,fun _=>rfl,fun h=>by cases h⟩
theorem Avg:TeOk1 Tryz.prog 442 An9:=⟨Ab,Ab,Ab,Ab,fun h=>absurd h Ae,fun _=>Ab⟩
theorem Avf:TeOk1 Tryz.prog 445 An8:=⟨Ab,Ab,Ab,Ab,fun _=>rfl,fun h=>by cases h⟩
theorem Ave:TeOk1 Tryz.prog 447 An7:=⟨Ab,Ab,Ab,Ab,fun h=>absurd h Ae,fun h=>by cases h⟩
theorem Avd:TeOk1 Tryz.prog 449 An6:=⟨Ab,Ab,Ab,Ab,fun h=>absurd h Ae,fun _=>Ab⟩
theorem Avc:TeOk1 Tryz.prog 455 An5:=⟨Ab,Ab,Ab,Ab,fun _=>rfl,fun h=>by cases h⟩
theorem Avb:TeOk1 Tryz.prog 456 An4:=⟨Ab,Ab,Ab,Ab,fun _=>rfl,fun h=>by cases h⟩
theorem Ava:TeOk1 Tryz.prog 458 An3:=⟨Ab,Ab,Ab,Ab,fun h=>absurd h Ae,fun _=>Ab⟩
theorem Au9:TeOk1 Tryz.prog 466 An2:=⟨Ab,Ab,Ab,Ab,fun _=>rfl,fun h=>by cases h⟩
theorem Au8:TeOk1 Tryz.prog 470 An1:=⟨Ab,Ab,Ab,Ab,fun _=>rfl,fun h=>by cases h⟩
theorem Au7:TeOk1 Tryz.prog 471 An0:=⟨Ab,Ab,Ab,Ab,fun _=>rfl,fun h=>by cases h⟩
theorem Au6:TeOk1 Tryz.prog 477 Anz:=⟨Ab,Ab,Ab,Ab,fun h=>absurd h Ae,fun h=>by cases h⟩
theorem Au5:TeOk1 Tryz.prog 478 Any:=⟨Ab,Ab,Ab,Ab,fun _=>rfl,fun h=>by cases h⟩
theorem Au4:TeOk1 Tryz.prog 484 Anx:=⟨Ab,Ab,Ab,Ab,fun h=>absurd h Ae,fun h=>by cases h⟩
theorem Au3:TeOk1 Tryz.prog 488 Anw:=⟨Ab,Ab,Ab,Ab,fun h=>absurd h Ae,fun h=>by cases h⟩
theorem Au2:TeOk1 Tryz.prog 489 Anv:=⟨Ab,Ab,Ab,Ab,fun h=>absurd h Ae,fun h=>by cases h⟩
theorem Au1:TeOk1 Tryz.prog 493 Anu:=⟨Ab,Ab,Ab,Ab,fun _=>rfl,fun h=>by cases h⟩
theorem Au0:TeOk1 Tryz.prog 498 Ant:=⟨Ab,Ab,Ab,Ab,fun _=>rfl,fun h=>by cases h⟩
theorem Auz:TeOk1 Tryz.prog 499 Ans:=⟨Ab,Ab,Ab,Ab,fun _=>rfl,fun h=>by cases h⟩
theorem Auy:TeOk1 Tryz.prog 502 Anr:=⟨Ab,Ab,Ab,Ab,fun _=>rfl,fun h=>by cases h⟩
theorem Azm:CX Tryz.prog te:=
 (Aq te1 (Aq te2 (Aq te3 (Aq te4 (Aq te5 (Aq te6 (Aq te8 (Aq te9 (Aq A0q (Aq A0p (Aq A0o (Aq A0n (Aq A0m (Aq A0l (Aq A0k (Aq A0j (Aq A0i (Aq A0h (Aq A0g (Aq A0f (Aq A0e (Aq A0d (Aq A0c (Aq A0b (Aq A0a (Aq Az9 (Aq Az8 (Aq Az7 (Aq Az6 (Aq Az5 (Aq Az4 (Aq Az3 (Aq Az2 (Aq Az1 (Aq Az0 (Aq Azz (Aq Azy (Aq Azx (Aq Azw (Aq Azv (Aq Azu (Aq Azt (Aq Azs (Aq Azr (Aq Azq (Aq Azp (Aq Azo (Aq Azn (Aq Ax7 (Aq Ax6 (Aq Ax5 (Aq Ax4 (Aq Ax3 (Aq Ax2 (Aq Ax1 (Aq Ax0 (Aq Axz (Aq Axy (Aq Axx (Aq Axw (Aq Axv (Aq Axu (Aq Axt (Aq Axs (Aq Axr (Aq Axq (Aq Axp (Aq Axo (Aq Axn (Aq Axm (Aq Axl (Aq Axk (Aq Axj (Aq Axi (Aq Axh (Aq Axg (Aq Axf (Aq Axe (Aq Axd (Aq Axc (Aq Axb (Aq Axa (Aq Aw9 (Aq Aw8 (Aq Aw7 (Aq Aw6 (Aq Aw5 (Aq Aw4 (Aq Aw3 (Aq Aw2 (Aq Aw1 (Aq Aw0 (Aq Awz (Aq Awy (Aq Awx (Aq Aww (Aq Awv (Aq Awu (Aq Awt (Aq Aws (Aq Awr (Aq Awq (Aq Awp (Aq Awo (Aq Awn (Aq Awm (Aq Awl (Aq Awk (Aq Awj (Aq Awi (Aq Awh (Aq Awg (Aq Awf (Aq Awe (Aq Awd (Aq Awc (Aq Awb (Aq Awa (Aq Av9 (Aq Av8 (Aq Av7 (Aq Av6 (Aq Av5 (Aq Av4 (Aq Av3 (Aq Av2 (Aq Av1 (Aq Av0 (Aq Avz (Aq Avy (Aq Avx (Aq Avw (Aq Avv (Aq Avu (Aq Avt (Aq Avs (Aq Avr (Aq Avq (Aq Avp (Aq Avo (Aq Avn (Aq Avm (Aq Avl (Aq Avk (Aq Avj (Aq Avi (Aq Avh (Aq Avg (Aq Avf (Aq Ave (Aq Avd (Aq Avc (Aq Avb (Aq Ava (Aq Au9 (Aq Au8 (Aq Au7 (Aq Au6 (Aq Au5 (Aq Au4 (Aq Au3 (Aq Au2 (Aq Au1 (Aq Au0 (Aq Auz (Aq Auy Aux))))))))))))))))))))))))))))))))))))))))))))))))))))))))))))))))))))))))))))))))))))))))))))))))))))))))))))))))))))))))))))))))))))))))))))))))))))))))))))))))))))))
def SX (a b:String):String:=(a.push (Char.ofNat 47))++b
def Vc:String:=SX "roving" "engine.place"
def Alt:String:=SX "roving" "engine.end"
def Aa5:String:=SX "roving" "engine.more"
def Als:String:=SX "roving" "engine.log"
def Aa4:String:=SX "roving" "metalog.number"
def Aq7:String:=SX "roving" "metalog.flag"
def Asz (t:Nat) (name:String):Option (Nat×Rc):=
 if t=237 then(if name=Vc then some (429,.self)else(if name=Alt then some (427,.self)else(if name=Aa5 then some (428,.self)else(if name=Als then some (411,.fld 0 2)else none))))
 else if t=238 then(if name=Vc then some (433,.self)else(if name=Alt then some (431,.self)else(if name=Aa5 then some (432,.self)else(if name=Als then some (411,.fld 0 2)else none))))
 else if t=307 then(if name=Aa4 then some (209,.self)else(if name=Aq7 then some (451,.self)else none))
 else if t=231 then(if name= "Unwrap" then some (410,.self)else none)
 else none
def cfg:Conf:={te:=te,imm:=[233,428,372,291,400,442,206,225,306,98,422,157],own:=[],inv:=Asz,ownR:=[136,138,260,75,307,255],sp:=fun _ _ _=>none}
theorem Alp:Tryz.prog.follows .mixedOrders=true:=Ab
theorem Ag5:(Tryz.prog.funcs.toList.all fun fn=> !(fn.name== "runtime.NumGoroutine"))=true:=Ab
theorem A1c:IL Tryz.prog 237 Vc 429 .self:=fun w v=>Ab
theorem A1b:IL Tryz.prog 237 Alt 427 .self:=fun w v=>Ab
theorem A1a:IL Tryz.prog 237 Aa5 428 .self:=fun w v=>Ab
theorem A09:IL Tryz.prog 237 Als 411 (.fld 0 2):=fun w v=>Ab
theorem A08:IL Tryz.prog 238 Vc 433 .self:=fun w v=>Ab
theorem A07:IL Tryz.prog 238 Alt 431 .self:=fun w v=>Ab
theorem A06:IL Tryz.prog 238 Aa5 432 .self:=fun w v=>Ab
theorem A05:IL Tryz.prog 238 Als 411 (.fld 0 2):=fun w v=>Ab
theorem A04:IL Tryz.prog 307 Aa4 209 .self:=fun w v=>Ab
theorem A03:IL Tryz.prog 307 Aq7 451 .self:=fun w v=>Ab
theorem Ayv:IL Tryz.prog 231 "Unwrap" 410 .self:=fun w v=>Ab
theorem Ayu: ∀t name f rc,Asz t name=some (f,rc)->IL Tryz.prog t name f rc:=by
 intro t name f rc h
 unfold Asz at h
 split at h
 ·rename_i e;subst e
  split at h
  ·rename_i e;subst e;cases h;exact A1c
  ·split at h
   ·rename_i e;subst e;cases h;exact A1b
   ·split at h
    ·rename_i e;subst e;cases h;exact A1a
    ·split at h
     ·rename_i e;subst e;cases h;exact A09
     ·cases h
 ·split at h
  ·rename_i e;subst e
   split at h
   ·rename_i e;subst e;cases h;exact A08
   ·split at h
    ·rename_i e;subst e;cases h;exact A07
    ·split at h
     ·rename_i e;subst e;cases h;exact A06
     ·split at h
      ·rename_i e;subst e;cases h;exact A05
      ·cases h
  ·split at h
   ·rename_i e;subst e
    split at h
    ·rename_i e;subst e;cases h;exact A04
    ·split at h
     ·rename_i e;subst e;cases h;exact A03
     ·cases h
   ·split at h
    ·rename_i e;subst e
     split at h
     ·rename_i e;subst e;cases h;exact Ayv
     ·cases h
    ·cases h
theorem Ag:ProgOk Tryz.prog cfg where
 te:=Azm
 inv:=Ayu
 num:=fun f fn h=>by
  have h0:=Ag5
  rw[List.all_eq_true]at h0
  have:=h0 fn (List.mem_of_getElem? (by rw[Array.getElem?_toList];exact h))
  simpa using this
 mix:=Alp
 sp:=fun f az σ r σ' h=>by cases h
end Go.Proofs.YtmohpcgmdheafaaGreatDoor
