/- Contracts and laws, joined: Te, Cf. No condition beside those that each theorem names. -/
import Derived.Test.YthjoclecnacdiaaGreatDoorZM4
import Derived.Test.YthjoclecnacdiaaGreatDoorProg
import Derived.KernelRfl
set_option linter.unusedVariables false
set_option linter.unusedSimpArgs false
namespace Go.Proofs.YthjoclecnacdiaaGreatDoor
open Go.Am
def ti1:TI:=⟨1,8,[.nilFunc],.func⟩
def ti2:TI:=⟨1,8,[.int .i64 0],.int .i64⟩
def ti3:TI:=⟨1,8,[.int .i64 0],.int .i64⟩
def ti4:TI:=⟨1,1,[.bool false],.bool⟩
def ti5:TI:=⟨1,1,[.int .u8 0],.int .u8⟩
def ti6:TI:=⟨1,1,[.int .u8 0],.int .u8⟩
def ti8:TI:=⟨4,24,[.int .i64 0,.int .i64 0,.bool false,.int .u8 0],.struct [(0,2),(1,3),(2,4),(3,6)]⟩
def ti9:TI:=⟨1,16,[.str []],.string⟩
def Zi:TI:=⟨1,16,[.str []],.string⟩
def Zh:TI:=⟨1,16,[.str []],.string⟩
def Zg:TI:=⟨1,8,[.int .u64 0],.int .u64⟩
def Zf:TI:=⟨1,8,[.nilPtr],.ptr 339⟩
def Ze:TI:=⟨1,8,[.nilPtr],.ptr 342⟩
def Zd:TI:=⟨1,8,[.nilPtr],.ptr 351⟩
def Zc:TI:=⟨1,16,[.nilIface],.iface⟩
def Zb:TI:=⟨1,1,[.int .i8 0],.int .i8⟩
def Za:TI:=⟨1,24,[.slice .nil 0 []],.slice 67⟩
def YZ:TI:=⟨5,56,[.int .i64 0,.int .i64 0,.int .i64 0,.bool false,.slice .nil 0 []],.struct [(0,3),(1,3),(2,3),(3,4),(4,23)]⟩
def YY:TI:=⟨15,136,[.int .i8 0,.int .i64 0,.int .i64 0,.int .i64 0,.int .i64 0,.int .i64 0,.int .i64 0,.int .i64 0,.int .i64 0,.bool false,.int .i64 0,.int .i64 0,.int .i64 0,.bool false,.slice .nil 0 []],.struct [(0,22),(1,3),(2,3),(3,3),(4,3),(5,3),(6,3),(7,3),(8,3),(9,4),(10,25)]⟩
def YX:TI:=⟨1,8,[.int .i64 0],.int .i64⟩
def YW:TI:=⟨1,24,[.slice .nil 0 []],.slice 46⟩
def Sl:TI:=⟨6,64,[.int .i8 0,.int .i64 0,.int .i64 0,.int .i64 0,.int .i64 0,.slice .nil 0 []],.struct [(0,22),(1,28),(2,3),(3,3),(4,3),(5,29)]⟩
def YV:TI:=⟨1,24,[.slice .nil 0 []],.slice 50⟩
def YU:TI:=⟨5,56,[.int .i64 0,.int .i64 0,.int .i64 0,.str [],.str []],.struct [(0,3),(1,3),(2,3),(3,9),(4,9)]⟩
def YT:TI:=⟨1,24,[.slice .nil 0 []],.slice 3⟩
def YS:TI:=⟨3,40,[.int .i64 0,.int .i64 0,.slice .nil 0 []],.struct [(0,3),(1,3),(2,48)]⟩
def YR:TI:=⟨1,24,[.slice .nil 0 []],.slice 164⟩
def YQ:TI:=⟨1,24,[.slice .nil 0 []],.slice 59⟩
def YP:TI:=⟨5,88,[.int .i64 0,.int .i64 0,.slice .nil 0 [],.slice .nil 0 [],.slice .nil 0 []],.struct [(0,3),(1,3),(2,29),(3,51),(4,52)]⟩
def YO:TI:=⟨1,24,[.slice .nil 0 []],.slice 137⟩
def YN:TI:=⟨4,48,[.int .i64 0,.int .i64 0,.int .i64 0,.slice .nil 0 []],.struct [(0,3),(1,3),(2,3),(3,57)]⟩
def YM:TI:=⟨2,32,[.str [],.str []],.struct [(0,9),(1,9)]⟩
def YL:TI:=⟨1,24,[.slice .nil 0 []],.slice 105⟩
def YK:TI:=⟨1,24,[.slice .nil 0 []],.slice 176⟩
def YJ:TI:=⟨7,136,[.slice .nil 0 [],.slice .nil 0 [],.int .i64 0,.int .i64 0,.slice .nil 0 [],.slice .nil 0 [],.slice .nil 0 []],.struct [(0,68),(1,69),(2,54)]⟩
def YI:TI:=⟨1,16,[.nilIface],.iface⟩
def YH:TI:=⟨1,24,[.slice .nil 0 []],.slice 5⟩
def YG:TI:=⟨1,8,[.nilFunc],.func⟩
def YF:TI:=⟨1,8,[.nilFunc],.func⟩
def YE:TI:=⟨1,8,[.nilPtr],.ptr 95⟩
def YD:TI:=⟨2,24,[.str [],.int .i64 0],.struct [(0,9),(1,28)]⟩
def YC:TI:=⟨5,88,[.int .i64 0,.int .i64 0,.slice .nil 0 [],.slice .nil 0 [],.slice .nil 0 []],.struct [(0,54)]⟩
def YB:TI:=⟨1,8,[.nilFunc],.func⟩
def YA:TI:=⟨2,16,[.nilFunc,.nilFunc],.array 2 98⟩
def X1:TI:=⟨18,192,[.int .i8 0,.int .i64 0,.int .i64 0,.int .i64 0,.bool false,.slice .nil 0 [],.bool false,.int .i64 0,.int .i64 0,.int .i64 0,.int .i64 0,.int .i64 0,.str [],.str [],.int .i64 0,.int .i64 0,.int .i64 0,.slice .nil 0 []],.struct [(0,22),(1,25),(6,4),(7,3),(8,3),(9,46),(14,59)]⟩
def X0:TI:=⟨1,8,[.nilPtr],.ptr 28⟩
def Xz:TI:=⟨1,8,[.nilPtr],.ptr 112⟩
def Xy:TI:=⟨1,8,[.nilPtr],.ptr 277⟩
def Xx:TI:=⟨18,184,[.nilPtr,.int .i8 0,.int .i64 0,.int .i64 0,.int .i64 0,.int .i64 0,.int .i64 0,.int .i64 0,.int .i64 0,.int .i64 0,.bool false,.int .i64 0,.int .i64 0,.int .i64 0,.bool false,.slice .nil 0 [],.slice .nil 0 [],.nilIface],.struct [(0,110),(1,27),(16,77),(17,73)]⟩
def Xw:TI:=⟨1,8,[.nilPtr],.ptr 116⟩
def Xv:TI:=⟨2,24,[.str [],.int .i64 0],.struct [(0,9),(1,28)]⟩
def Xu:TI:=⟨1,8,[.nilPtr],.ptr 121⟩
def Xt:TI:=⟨2,24,[.str [],.int .i64 0],.struct [(0,9),(1,28)]⟩
def Xs:TI:=⟨1,8,[.nilFunc],.func⟩
def Xr:TI:=⟨3,24,[.int .i64 0,.int .i64 0,.int .i64 0],.struct [(0,3),(1,3),(2,3)]⟩
def Xq:TI:=⟨1,8,[.nilFunc],.func⟩
def Xp:TI:=⟨1,16,[.nilIface],.iface⟩
def Xo:TI:=⟨1,8,[.int .u64 0],.int .u64⟩
def Xn:TI:=⟨1,1,[.int .u8 0],.int .u8⟩
def Xm:TI:=⟨1,24,[.slice .nil 0 []],.slice 1⟩
def Xl:TI:=⟨1,8,[.nilFunc],.func⟩
def Xk:TI:=⟨1,8,[.nilPtr],.ptr 161⟩
def Xj:TI:=⟨2,24,[.str [],.int .i64 0],.struct [(0,9),(1,28)]⟩
def Xi:TI:=⟨1,24,[.slice .nil 0 []],.slice 25⟩
def Xh:TI:=⟨3,40,[.int .i64 0,.int .i64 0,.slice .nil 0 []],.struct [(0,3),(1,3),(2,162)]⟩
def Xg:TI:=⟨1,8,[.nilPtr],.ptr 172⟩
def Xf:TI:=⟨5,88,[.int .i64 0,.int .i64 0,.slice .nil 0 [],.slice .nil 0 [],.slice .nil 0 []],.struct [(0,54)]⟩
def Xe:TI:=⟨2,32,[.int .i64 0,.slice .nil 0 []],.struct [(0,3),(1,68)]⟩
def Xd:TI:=⟨1,8,[.nilPtr],.ptr 180⟩
def Xc:TI:=⟨1,8,[.nilMap],.map 3 162⟩
def Xb:TI:=⟨6,96,[.int .i64 0,.int .i64 0,.slice .nil 0 [],.slice .nil 0 [],.slice .nil 0 [],.nilMap],.struct [(0,54),(5,178)]⟩
def Xa:TI:=⟨1,8,[.nilPtr],.ptr 355⟩
def WZ:TI:=⟨1,16,[.nilIface],.iface⟩
def WY:TI:=⟨1,16,[.nilIface],.iface⟩
def WX:TI:=⟨1,16,[.nilIface],.iface⟩
def WW:TI:=⟨1,24,[.slice .nil 0 []],.slice 73⟩
def WV:TI:=⟨1,16,[.nilIface],.iface⟩
def WU:TI:=⟨1,8,[.nilFunc],.func⟩
def WT:TI:=⟨1,8,[.nilFunc],.func⟩
def WS:TI:=⟨1,8,[.nilFunc],.func⟩
def WR:TI:=⟨1,8,[.nilFunc],.func⟩
def WQ:TI:=⟨1,8,[.nilPtr],.ptr 211⟩
def WP:TI:=⟨2,24,[.str [],.int .i64 0],.struct [(0,9),(1,28)]⟩
def WO:TI:=⟨1,8,[.nilFunc],.func⟩
def WN:TI:=⟨1,8,[.nilFunc],.func⟩
def WM:TI:=⟨7,56,[.nilFunc,.nilFunc,.nilFunc,.nilFunc,.nilFunc,.nilFunc,.nilFunc],.array 7 214⟩
def WL:TI:=⟨1,8,[.nilFunc],.func⟩
def WK:TI:=⟨1,8,[.nilPtr],.ptr 3⟩
def WJ:TI:=⟨1,8,[.nilFunc],.func⟩
def WI:TI:=⟨1,8,[.nilPtr],.ptr 238⟩
def WH:TI:=⟨2,24,[.str [],.int .i64 0],.struct [(0,9),(1,28)]⟩
def WG:TI:=⟨1,8,[.nilFunc],.func⟩
def WF:TI:=⟨1,8,[.nilPtr],.ptr 245⟩
def WE:TI:=⟨2,24,[.str [],.int .i64 0],.struct [(0,9),(1,28)]⟩
def WD:TI:=⟨1,8,[.nilFunc],.func⟩
def WC:TI:=⟨1,8,[.nilFunc],.func⟩
def WB:TI:=⟨1,8,[.nilPtr],.ptr 264⟩
def WA:TI:=⟨2,32,[.str [],.nilIface],.struct [(0,9),(1,73)]⟩
def W9:TI:=⟨1,8,[.nilPtr],.ptr 275⟩
def W8:TI:=⟨2,24,[.str [],.int .i64 0],.struct [(0,9),(1,28)]⟩
def W7:TI:=⟨3,32,[.str [],.int .i64 0,.bool false],.struct [(0,9),(1,3),(2,4)]⟩
def W6:TI:=⟨1,8,[.nilFunc],.func⟩
def W5:TI:=⟨1,8,[.nilFunc],.func⟩
def W4:TI:=⟨1,8,[.nilPtr],.ptr 298⟩
def W3:TI:=⟨2,24,[.str [],.int .i64 0],.struct [(0,9),(1,28)]⟩
def W2:TI:=⟨1,24,[.slice .nil 0 []],.slice 77⟩
def Wz:TI:=⟨1,8,[.nilPtr],.ptr 306⟩
def Wy:TI:=⟨2,16,[.int .i64 0,.int .i64 0],.struct [(0,3),(1,28)]⟩
def Wx:TI:=⟨1,8,[.nilFunc],.func⟩
def Ww:TI:=⟨2,32,[.slice .nil 0 [],.int .i64 0],.struct [(0,77),(1,3)]⟩
def Wv:TI:=⟨1,8,[.int .u64 0],.int .u64⟩
def Wu:TI:=⟨1,8,[.nilFunc],.func⟩
def Wt:TI:=⟨1,8,[.nilPtr],.ptr 311⟩
def Ws:TI:=⟨1,8,[.nilPtr],.ptr 322⟩
def Wq:TI:=⟨2,16,[.int .i64 0,.int .i64 0],.struct [(0,3),(1,28)]⟩
def Wp:TI:=⟨24,24,[.int .u8 0,.int .u8 0,.int .u8 0,.int .u8 0,.int .u8 0,.int .u8 0,.int .u8 0,.int .u8 0,.int .u8 0,.int .u8 0,.int .u8 0,.int .u8 0,.int .u8 0,.int .u8 0,.int .u8 0,.int .u8 0,.int .u8 0,.int .u8 0,.int .u8 0,.int .u8 0,.int .u8 0,.int .u8 0,.int .u8 0,.int .u8 0],.array 24 5⟩
def Wo:TI:=⟨1,8,[.int .u64 0],.int .u64⟩
def Wn:TI:=⟨20,160,[.int .u64 0,.int .u64 0,.int .u64 0,.int .u64 0,.int .u64 0,.int .u64 0,.int .u64 0,.int .u64 0,.int .u64 0,.int .u64 0,.int .u64 0,.int .u64 0,.int .u64 0,.int .u64 0,.int .u64 0,.int .u64 0,.int .u64 0,.int .u64 0,.int .u64 0,.int .u64 0],.array 20 325⟩
def Wm:TI:=⟨1,4,[.int .u32 0],.int .u32⟩
def Wl:TI:=⟨32,32,[.int .u8 0,.int .u8 0,.int .u8 0,.int .u8 0,.int .u8 0,.int .u8 0,.int .u8 0,.int .u8 0,.int .u8 0,.int .u8 0,.int .u8 0,.int .u8 0,.int .u8 0,.int .u8 0,.int .u8 0,.int .u8 0,.int .u8 0,.int .u8 0,.int .u8 0,.int .u8 0,.int .u8 0,.int .u8 0,.int .u8 0,.int .u8 0,.int .u8 0,.int .u8 0,.int .u8 0,.int .u8 0,.int .u8 0,.int .u8 0,.int .u8 0,.int .u8 0],.array 32 5⟩
def Wk:TI:=⟨64,64,[.int .u8 0,.int .u8 0,.int .u8 0,.int .u8 0,.int .u8 0,.int .u8 0,.int .u8 0,.int .u8 0,.int .u8 0,.int .u8 0,.int .u8 0,.int .u8 0,.int .u8 0,.int .u8 0,.int .u8 0,.int .u8 0,.int .u8 0,.int .u8 0,.int .u8 0,.int .u8 0,.int .u8 0,.int .u8 0,.int .u8 0,.int .u8 0,.int .u8 0,.int .u8 0,.int .u8 0,.int .u8 0,.int .u8 0,.int .u8 0,.int .u8 0,.int .u8 0,.int .u8 0,.int .u8 0,.int .u8 0,.int .u8 0,.int .u8 0,.int .u8 0,.int .u8 0,.int .u8 0,.int .u8 0,.int .u8 0,.int .u8 0,.int .u8 0,.int .u8 0,.int .u8 0,.int .u8 0,.int .u8 0,.int .u8 0,.int .u8 0,.int .u8 0,.int .u8 0,.int .u8 0,.int .u8 0,.int .u8 0,.int .u8 0,.int .u8 0,.int .u8 0,.int .u8 0,.int .u8 0,.int .u8 0,.int .u8 0,.int .u8 0,.int .u8 0],.array 64 5⟩
def Wj:TI:=⟨1,4,[.int .i32 0],.int .i32⟩
def Wi:TI:=⟨1,4,[.int .i32 0],.int .i32⟩
def Wh:TI:=⟨1,8,[.nilPtr],.ptr 360⟩
def Wg:TI:=⟨1,24,[.slice .nil 0 []],.slice 364⟩
def Wf:TI:=⟨1,4,[.int .i32 0],.int .i32⟩
def We:TI:=⟨1,8,[.nilPtr],.ptr 73⟩
def te:TE:=[(1,ti1),(2,ti2),(3,ti3),(4,ti4),(5,ti5),(6,ti6),(8,ti8),(9,ti9),(10,Zi),(11,Zh),(12,Zg),(15,Zf),(16,Ze),(17,Zd),(20,Zc),(22,Zb),(23,Za),(25,YZ),(27,YY),(28,YX),(29,YW),(31,Sl),(32,YV),(46,YU),(48,YT),(50,YS),(51,YR),(52,YQ),(54,YP),(57,YO),(59,YN),(67,YM),(68,YL),(69,YK),(71,YJ),(73,YI),(77,YH),(81,YG),(90,YF),(93,YE),(95,YD),(97,YC),(98,YB),(99,YA),(105,X1),(108,X0),(109,Xz),(110,Xy),(112,Xx),(114,Xw),(116,Xv),(119,Xu),(121,Xt),(125,Xs),(137,Xr),(138,Xq),(140,Xp),(144,Xo),(149,Xn),(153,Xm),(156,Xl),(159,Xk),(161,Xj),(162,Xi),(164,Xh),(170,Xg),(172,Xf),(176,Xe),(177,Xd),(178,Xc),(180,Xb),(184,Xa),(185,WZ),(188,WY),(190,WX),(191,WW),(195,WV),(200,WU),(203,WT),(204,WS),(207,WR),(209,WQ),(211,WP),(212,WO),(214,WN),(215,WM),(219,WL),(223,WK),(233,WJ),(236,WI),(238,WH),(241,WG),(243,WF),(245,WE),(249,WD),(261,WC),(262,WB),(264,WA),(273,W9),(275,W8),(277,W7),(278,W6),(281,W5),(296,W4),(298,W3),(302,W2),(304,Wz),(306,Wy),(307,Wx),(311,Ww),(313,Wv),(317,Wu),(319,Wt),(320,Ws),(322,Wq),(324,Wp),(325,Wo),(331,Wn),(332,Wm),(336,Wl),(337,Wk),(348,Wj),(349,Wi),(356,Wh),(361,Wg),(362,Wf),(365,We)]
theorem Zj:CH Tryz.prog []:=fun t ti h=>by cases h
theorem AF {t:Nat} {ti:TI} {r:TE} (h:TeOk1 Tryz.prog t ti) (hr:CH Tryz.prog r):CH Tryz.prog ((t,ti)::r):=fun u ui hu=>by
 rw[AB]at hu
 split at hu
 ·rename_i e;subst e;cases hu;exact h
 ·exact hr u ui hu
theorem te1:TeOk1 Tryz.prog 1 ti1:=⟨U,U,U,U,fun _=>rfl,fun h=>by cases h⟩
theorem te2:TeOk1 Tryz.prog 2 ti2:=⟨U,U,U,U,fun _=>rfl,fun h=>by cases h⟩
theorem te3:TeOk1 Tryz.prog 3 ti3:=⟨U,U,U,U,fun _=>rfl,fun h=>by cases h⟩
theorem te4:TeOk1 Tryz.prog 4 ti4:=⟨U,U,U,U,fun _=>rfl,fun h=>by cases h⟩
theorem te5:TeOk1 Tryz.prog 5 ti5:=⟨U,U,U,U,fun _=>rfl,fun h=>by cases h⟩
theorem te6:TeOk1 Tryz.prog 6 ti6:=⟨U,U,U,U,fun _=>rfl,fun h=>by cases h⟩
theorem te8:TeOk1 Tryz.prog 8 ti8:=⟨U,U,U,U,fun h=>absurd h Aa,fun _=>U⟩
theorem te9:TeOk1 Tryz.prog 9 ti9:=⟨U,U,U,U,fun _=>rfl,fun h=>by cases h⟩
theorem Acu:TeOk1 Tryz.prog 10 Zi:=⟨U,U,U,U,fun _=>rfl,fun h=>by cases h⟩
theorem Acs:TeOk1 Tryz.prog 11 Zh:=⟨U,U,U,U,fun _=>rfl,fun h=>by cases h⟩
theorem Acr:TeOk1 Tryz.prog 12 Zg:=⟨U,U,U,U,fun _=>rfl,fun h=>by cases h⟩
theorem Acq:TeOk1 Tryz.prog 15 Zf:=⟨U,U,U,U,fun _=>rfl,fun h=>by cases h⟩
theorem Acp:TeOk1 Tryz.prog 16 Ze:=⟨U,U,U,U,fun _=>rfl,fun h=>by cases h⟩
theorem Aco:TeOk1 Tryz.prog 17 Zd:=⟨U,U,U,U,fun _=>rfl,fun h=>by cases h⟩
theorem Acn:TeOk1 Tryz.prog 20 Zc:=⟨U,U,U,U,fun _=>rfl,fun h=>by cases h⟩
theorem Acm:TeOk1 Tryz.prog 22 Zb:=⟨U,U,U,U,fun _=>rfl,fun h=>by cases h⟩
theorem Acl:TeOk1 Tryz.prog 23 Za:=⟨U,U,U,U,fun _=>rfl,fun h=>by cases h⟩
theorem Ack:TeOk1 Tryz.prog 25 YZ:=⟨U,U,U,U,fun h=>absurd h Aa,fun _=>U⟩
theorem Acj:TeOk1 Tryz.prog 27 YY:=⟨U,U,U,U,fun h=>absurd h Aa,fun _=>U⟩
theorem Aci:TeOk1 Tryz.prog 28 YX:=⟨U,U,U,U,fun _=>rfl,fun h=>by cases h⟩
theorem Ach:TeOk1 Tryz.prog 29 YW:=⟨U,U,U,U,fun _=>rfl,fun h=>by cases h⟩
theorem Acg:TeOk1 Tryz.prog 31 Sl:=⟨U,U,U,U,fun h=>absurd h Aa,fun _=>U⟩
theorem Acf:TeOk1 Tryz.prog 32 YV:=⟨U,U,U,U,fun _=>rfl,fun h=>by cases h⟩
theorem Ace:TeOk1 Tryz.prog 46 YU:=⟨U,U,U,U,fun h=>absurd h Aa,fun _=>U⟩
theorem Acd:TeOk1 Tryz.prog 48 YT:=⟨U,U,U,U,fun _=>rfl,fun h=>by cases h⟩
theorem Acc:TeOk1 Tryz.prog 50 YS:=⟨U,U,U,U,fun h=>absurd h Aa,fun _=>U⟩
theorem Acb:TeOk1 Tryz.prog 51 YR:=⟨U,U,U,U,fun _=>rfl,fun h=>by cases h⟩
theorem Aca:TeOk1 Tryz.prog 52 YQ:=⟨U,U,U,U,fun _=>rfl,fun h=>by cases h⟩
theorem Ab9:TeOk1 Tryz.prog 54 YP:=⟨U,U,U,U,fun h=>absurd h Aa,fun _=>U⟩
theorem Ab8:TeOk1 Tryz.prog 57 YO:=⟨U,U,U,U,fun _=>rfl,fun h=>by cases h⟩
theorem Ab7:TeOk1 Tryz.prog 59 YN:=⟨U,U,U,U,fun h=>absurd h Aa,fun _=>U⟩
theorem Ab6:TeOk1 Tryz.prog 67 YM:=⟨U,U,U,U,fun h=>absurd h Aa,fun _=>U⟩
theorem Ab5:TeOk1 Tryz.prog 68 YL:=⟨U,U,U,U,fun _=>rfl,fun h=>by cases h⟩
theorem Ab4:TeOk1 Tryz.prog 69 YK:=⟨U,U,U,U,fun _=>rfl,fun h=>by cases h⟩
theorem Ab3:TeOk1 Tryz.prog 71 YJ:=⟨U,U,U,U,fun h=>absurd h Aa,fun _=>U⟩
theorem Ab2:TeOk1 Tryz.prog 73 YI:=⟨U,U,U,U,fun _=>rfl,fun h=>by cases h⟩
theorem Ab1:TeOk1 Tryz.prog 77 YH:=⟨U,U,U,U,fun _=>rfl,fun h=>by cases h⟩
theorem Ab0:TeOk1 Tryz.prog 81 YG:=⟨U,U,U,U,fun _=>rfl,fun h=>by cases h⟩
theorem Abz:TeOk1 Tryz.prog 90 YF:=⟨U,U,U,U,fun _=>rfl,fun h=>by cases h⟩
theorem Aby:TeOk1 Tryz.prog 93 YE:=⟨U,U,U,U,fun _=>rfl,fun h=>by cases h⟩
theorem Abx:TeOk1 Tryz.prog 95 YD:=⟨U,U,U,U,fun h=>absurd h Aa,fun _=>U⟩
theorem Abw:TeOk1 Tryz.prog 97 YC:=⟨U,U,U,U,fun h=>absurd h Aa,fun _=>U⟩
theorem Abv:TeOk1 Tryz.prog 98 YB:=⟨U,U,U,U,fun _=>rfl,fun h=>by cases h⟩
theorem Abu:TeOk1 Tryz.prog 99 YA:=⟨U,U,U,U,fun h=>absurd h Aa,fun h=>by cases h⟩
theorem Aa4:TeOk1 Tryz.prog 105 X1:=⟨U,U,U,U,fun h=>absurd h Aa,fun _=>U⟩
theorem Aa3:TeOk1 Tryz.prog 108 X0:=⟨U,U,U,U,fun _=>rfl,fun h=>by cases h⟩
theorem Aa2:TeOk1 Tryz.prog 109 Xz:=⟨U,U,U,U,fun _=>rfl,fun h=>by cases h⟩
theorem Aa1:TeOk1 Tryz.prog 110 Xy:=⟨U,U,U,U,fun _=>rfl,fun h=>by cases h⟩
theorem Aa0:TeOk1 Tryz.prog 112 Xx:=⟨U,U,U,U,fun h=>absurd h Aa,fun _=>U⟩
theorem Aaz:TeOk1 Tryz.prog 114 Xw:=⟨U,U,U,U,fun _=>rfl,fun h=>by cases h⟩
theorem Aay:TeOk1 Tryz.prog 116 Xv:=⟨U,U,U,U,fun h=>absurd h Aa,fun _=>U⟩
theorem Aax:TeOk1 Tryz.prog 119 Xu:=⟨U,U,U,U,fun _=>rfl,fun h=>by cases h⟩
theorem Aaw:TeOk1 Tryz.prog 121 Xt:=⟨U,U,U,U,fun h=>absurd h Aa,fun _=>U⟩
theorem Aav:TeOk1 Tryz.prog 125 Xs:=⟨U,U,U,U,fun _=>rfl,fun h=>by cases h⟩
theorem Aau:TeOk1 Tryz.prog 137 Xr:=⟨U,U,U,U,fun h=>absurd h Aa,fun _=>U⟩
theorem Aat:TeOk1 Tryz.prog 138 Xq:=⟨U,U,U,U,fun _=>rfl,fun h=>by cases h⟩
theorem Aas:TeOk1 Tryz.prog 140 Xp:=⟨U,U,U,U,fun _=>rfl,fun h=>by cases h⟩
theorem Aar:TeOk1 Tryz.prog 144 Xo:=⟨U,U,U,U,fun _=>rfl,fun h=>by cases h⟩
theorem Aaq:TeOk1 Tryz.prog 149 Xn:=⟨U,U,U,U,fun _=>rfl,fun h=>by cases h⟩
theorem Aap:TeOk1 Tryz.prog 153 Xm:=⟨U,U,U,U,fun _=>rfl,fun h=>by cases h⟩
theorem Aao:TeOk1 Tryz.prog 156 Xl:=⟨U,U,U,U,fun _=>rfl,fun h=>by cases h⟩
theorem Aan:TeOk1 Tryz.prog 159 Xk:=⟨U,U,U,U,fun _=>rfl,fun h=>by cases h⟩
theorem Aam:TeOk1 Tryz.prog 161 Xj:=⟨U,U,U,U,fun h=>absurd h Aa,fun _=>U⟩
theorem Aal:TeOk1 Tryz.prog 162 Xi:=⟨U,U,U,U,fun _=>rfl,fun h=>by cases h⟩
theorem Aak:TeOk1 Tryz.prog 164 Xh:=⟨U,U,U,U,fun h=>absurd h Aa,fun _=>U⟩
theorem Aaj:TeOk1 Tryz.prog 170 Xg:=⟨U,U,U,U,fun _=>rfl,fun h=>by cases h⟩
theorem Aai:TeOk1 Tryz.prog 172 Xf:=⟨U,U,U,U,fun h=>absurd h Aa,fun _=>U⟩
theorem Aah:TeOk1 Tryz.prog 176 Xe:=⟨U,U,U,U,fun h=>absurd h Aa,fun _=>U⟩
theorem Aag:TeOk1 Tryz.prog 177 Xd:=⟨U,U,U,U,fun _=>rfl,fun h=>by cases h⟩
theorem Aaf:TeOk1 Tryz.prog 178 Xc:=⟨U,U,U,U,fun _=>rfl,fun h=>by cases h⟩
theorem Aae:TeOk1 Tryz.prog 180 Xb:=⟨U,U,U,U,fun h=>absurd h Aa,fun _=>U⟩
theorem Aad:TeOk1 Tryz.prog 184 Xa:=⟨U,U,U,U,fun _=>rfl,fun h=>by cases h⟩
theorem Aac:TeOk1 Tryz.prog 185 WZ:=⟨U,U,U,U,fun _=>rfl,fun h=>by cases h⟩
theorem Aab:TeOk1 Tryz.prog 188 WY:=⟨U,U,U,U,fun _=>rfl,fun h=>by cases h⟩
theorem Aaa:TeOk1 Tryz.prog 190 WX:=⟨U,U,U,U,fun _=>rfl,fun h=>by cases h⟩
theorem ZZ:TeOk1 Tryz.prog 191 WW:=⟨U,U,U,U,fun _=>rfl,fun h=>by cases h⟩
theorem ZY:TeOk1 Tryz.prog 195 WV:=⟨U,U,U,U,fun _=>rfl,fun h=>by cases h⟩
theorem ZX:TeOk1 Tryz.prog 200 WU:=⟨U,U,U,U,fun _=>rfl,fun h=>by cases h⟩
theorem ZW:TeOk1 Tryz.prog 203 WT:=⟨U,U,U,U,fun _=>rfl,fun h=>by cases h⟩
theorem ZV:TeOk1 Tryz.prog 204 WS:=⟨U,U,U,U,fun _=>rfl,fun h=>by cases h⟩
theorem ZU:TeOk1 Tryz.prog 207 WR:=⟨U,U,U,U,fun _=>rfl,fun h=>by cases h⟩
theorem ZT:TeOk1 Tryz.prog 209 WQ:=⟨U,U,U,U,fun _=>rfl,fun h=>by cases h⟩
theorem ZS:TeOk1 Tryz.prog 211 WP:=⟨U,U,U,U,fun h=>absurd h Aa,fun _=>U⟩
theorem ZR:TeOk1 Tryz.prog 212 WO:=⟨U,U,U,U,fun _=>rfl,fun h=>by cases h⟩
theorem ZQ:TeOk1 Tryz.prog 214 WN:=⟨U,U,U,U,fun _=>rfl,fun h=>by cases h⟩
theorem ZP:TeOk1 Tryz.prog 215 WM:=⟨U,U,U,U,fun h=>absurd h Aa,fun h=>by cases h⟩
theorem ZO:TeOk1 Tryz.prog 219 WL:=⟨U,U,U,U,fun _=>rfl,fun h=>by cases h⟩
theorem ZN:TeOk1 Tryz.prog 223 WK:=⟨U,U,U,U,fun _=>rfl,fun h=>by cases h⟩
theorem ZM:TeOk1 Tryz.prog 233 WJ:=⟨U,U,U,U,fun _=>rfl,fun h=>by cases h⟩
theorem ZL:TeOk1 Tryz.prog 236 WI:=⟨U,U,U,U,fun _=>rfl,fun h=>by cases h⟩
theorem ZK:TeOk1 Tryz.prog 238 WH:=⟨U,U,U,U,fun h=>absurd h Aa,fun _=>U⟩
theorem ZJ:TeOk1 Tryz.prog 241 WG:=⟨U,U,U,U,fun _=>rfl,fun h=>by cases h⟩
theorem ZI:TeOk1 Tryz.prog 243 WF:=⟨U,U,U,U,fun _=>rfl,fun h=>by cases h⟩
theorem ZH:TeOk1 Tryz.prog 245 WE:=⟨U,U,U,U,fun h=>absurd h Aa,fun _=>U⟩
theorem ZG:TeOk1 Tryz.prog 249 WD:=⟨U,U,U,U,fun _=>rfl,fun h=>by cases h⟩
theorem ZF:TeOk1 Tryz.prog 261 WC:=⟨U,U,U,U,fun _=>rfl,fun h=>by cases h⟩
theorem ZE:TeOk1 Tryz.prog 262 WB:=⟨U,U,U,U,fun _=>rfl,fun h=>by cases h⟩
theorem ZD:TeOk1 Tryz.prog 264 WA:=⟨U,U,U,U,fun h=>absurd h Aa,fun _=>U⟩
theorem ZC:TeOk1 Tryz.prog 273 W9:=⟨U,U,U,U,fun _=>rfl,fun h=>by cases h⟩
theorem ZB:TeOk1 Tryz.prog 275 W8:=⟨U,U,U,U,fun h=>absurd h Aa,fun _=>U⟩
theorem ZA:TeOk1 Tryz.prog 277 W7:=⟨U,U,U,U,fun h=>absurd h Aa,fun _=>U⟩
theorem Z9:TeOk1 Tryz.prog 278 W6:=⟨U,U,U,U,fun _=>rfl,fun h=>by cases h⟩
theorem Z8:TeOk1 Tryz.prog 281 W5:=⟨U,U,U,U,fun _=>rfl,fun h=>by cases h⟩
theorem Z7:TeOk1 Tryz.prog 296 W4:=⟨U,U,U,U,fun _=>rfl,fun h=>by cases h⟩
theorem Z6:TeOk1 Tryz.prog 298 W3:=⟨U,U,U,U,fun h=>absurd h Aa,fun _=>U⟩
theorem Z5:TeOk1 Tryz.prog 302 W2:=⟨U,U,U,U,fun _=>rfl,fun h=>by cases h⟩
theorem Z4:TeOk1 Tryz.prog 304 Wz:=⟨U,U,U,U,fun _=>rfl,fun h=>by cases h⟩
theorem Z3:TeOk1 Tryz.prog 306 Wy:=⟨U,U,U,U,fun h=>absurd h Aa,fun _=>U⟩
theorem Z2:TeOk1 Tryz.prog 307 Wx:=⟨U,U,U,U,fun _=>rfl,fun h=>by cases h⟩
theorem Z1:TeOk1 Tryz.prog 311 Ww:=⟨U,U,U,U,fun h=>absurd h Aa,fun _=>U⟩
theorem Z0:TeOk1 Tryz.prog 313 Wv:=⟨U,U,U,U,fun _=>rfl,fun h=>by cases h⟩
theorem Zz:TeOk1 Tryz.prog 317 Wu:=⟨U,U,U,U,fun _=>rfl,fun h=>by cases h⟩
theorem Zy:TeOk1 Tryz.prog 319 Wt:=⟨U,U,U,U,fun _=>rfl,fun h=>by cases h⟩
theorem Zx:TeOk1 Tryz.prog 320 Ws:=⟨U,U,U,U,fun _=>rfl,fun h=>by cases h⟩
theorem Zw:TeOk1 Tryz.prog 322 Wq:=⟨U,U,U,U,fun h=>absurd h Aa,fun _=>U⟩
theorem Zv:TeOk1 Tryz.prog 324 Wp:=⟨U,U,U,U,fun h=>absurd h Aa,fun h=>by cases h⟩
theorem Zu:TeOk1 Tryz.prog 325 Wo:=⟨U,U,U,U,fun _=>rfl,fun h=>by cases h⟩
theorem Zt:TeOk1 Tryz.prog 331 Wn:=⟨U,U,U,U,fun h=>absurd h Aa,fun h=>by cases h⟩
theorem Zs:TeOk1 Tryz.prog 332 Wm:=⟨U,U,U,U,fun _=>rfl,fun h=>by cases h⟩
theorem Zr:TeOk1 Tryz.prog 336 Wl:=⟨U,U,U,U,fun h=>absurd h Aa,fun h=>by cases h⟩
theorem Zq:TeOk1 Tryz.prog 337 Wk:=⟨U,U,U,U,fun h=>absurd h Aa,fun h=>by cases h⟩
theorem Zp:TeOk1 Tryz.prog 348 Wj:=⟨U,U,U,U,fun _=>rfl,fun h=>by cases h⟩
theorem Zo:TeOk1 Tryz.prog 349 Wi:=⟨U,U,U,U,fun _=>rfl,fun h=>by cases h⟩
theorem Zn:TeOk1 Tryz.prog 356 Wh:=⟨U,U,U,U,fun _=>rfl,fun h=>by cases h⟩
theorem Zm:TeOk1 Tryz.prog 361 Wg:=⟨U,U,U,U,fun _=>rfl,fun h=>by cases h⟩
theorem Zl:TeOk1 Tryz.prog 362 Wf:=⟨U,U,U,U,fun _=>rfl,fun h=>by cases h⟩
theorem Zk:TeOk1 Tryz.prog 365 We:=⟨U,U,U,U,fun _=>rfl,fun h=>by cases h⟩
theorem Abt:CH Tryz.prog te:=
 (AF te1 (AF te2 (AF te3 (AF te4 (AF te5 (AF te6 (AF te8 (AF te9 (AF Acu (AF Acs (AF Acr (AF Acq (AF Acp (AF Aco (AF Acn (AF Acm (AF Acl (AF Ack (AF Acj (AF Aci (AF Ach (AF Acg (AF Acf (AF Ace (AF Acd (AF Acc (AF Acb (AF Aca (AF Ab9 (AF Ab8 (AF Ab7 (AF Ab6 (AF Ab5 (AF Ab4 (AF Ab3 (AF Ab2 (AF Ab1 (AF Ab0 (AF Abz (AF Aby (AF Abx (AF Abw (AF Abv (AF Abu (AF Aa4 (AF Aa3 (AF Aa2 (AF Aa1 (AF Aa0 (AF Aaz (AF Aay (AF Aax (AF Aaw (AF Aav (AF Aau (AF Aat (AF Aas (AF Aar (AF Aaq (AF Aap (AF Aao (AF Aan (AF Aam (AF Aal (AF Aak (AF Aaj (AF Aai (AF Aah (AF Aag (AF Aaf (AF Aae (AF Aad (AF Aac (AF Aab (AF Aaa (AF ZZ (AF ZY (AF ZX (AF ZW (AF ZV (AF ZU (AF ZT (AF ZS (AF ZR (AF ZQ (AF ZP (AF ZO (AF ZN (AF ZM (AF ZL (AF ZK (AF ZJ (AF ZI (AF ZH (AF ZG (AF ZF (AF ZE (AF ZD (AF ZC (AF ZB (AF ZA (AF Z9 (AF Z8 (AF Z7 (AF Z6 (AF Z5 (AF Z4 (AF Z3 (AF Z2 (AF Z1 (AF Z0 (AF Zz (AF Zy (AF Zx (AF Zw (AF Zv (AF Zu (AF Zt (AF Zs (AF Zr (AF Zq (AF Zp (AF Zo (AF Zn (AF Zm (AF Zl (AF Zk Zj)))))))))))))))))))))))))))))))))))))))))))))))))))))))))))))))))))))))))))))))))))))))))))))))))))))))))))))))))))))))))))))))
end Go.Proofs.YthjoclecnacdiaaGreatDoor
namespace Go.Proofs.YthjoclecnacdiaaGreatDoor
open Go.Am
def Yu (t:Nat) (name:String):Option (Nat×Rc):=
 if t=159 then(if name= "Unwrap" then some (273,.self)else none)
 else none
def cfg:Conf:={te:=te,imm:=[161,238,245,298,121,116,95,211,264,306],own:=[],inv:=Yu,ownR:=[227,159,122,168],sp:=fun _ _ _=>none}
theorem V6:Tryz.prog.follows .mixedOrders=true:=U
theorem TV:(Tryz.prog.funcs.toList.all fun fn=> !(fn.name== "runtime.NumGoroutine"))=true:=U
theorem Ac1:UL Tryz.prog 159 "Unwrap" 273 .self:=fun w v=>U
theorem Abh: ∀t name f rc,Yu t name=some (f,rc)→UL Tryz.prog t name f rc:=by
 intro t name f rc h
 unfold Yu at h
 split at h
 ·rename_i e;subst e
  split at h
  ·rename_i e;subst e;cases h;exact Ac1
  ·cases h
 ·cases h
theorem Ab:ProgOk Tryz.prog cfg where
 te:=Abt
 inv:=Abh
 num:=fun f fn h=>by
  have h0:=TV
  rw[List.all_eq_true]at h0
  have:=h0 fn (List.mem_of_getElem? (by rw[Array.getElem?_toList];exact h))
  simpa using this
 mix:=V6
 sp:=fun f az σ r σ' h=>by cases h
end Go.Proofs.YthjoclecnacdiaaGreatDoor
