/- Lemmas toward the law; each names its conditions. -/
import Derived.Test.YtppffhlbcgpgdaaGreatDoorYM4
import Derived.Test.YtppffhlbcgpgdaaGreatDoorProg
import Derived.KernelRfl
set_option linter.all false
namespace Go.Proofs.YtppffhlbcgpgdaaGreatDoor
open Go.Am
def Ua (e:Nat):TI:=⟨1,24,[.slice .nil 0 []],.slice e⟩
def LF (e:Nat):TI:=⟨1,8,[.nilPtr],.ptr e⟩
def ZD (b:Nat) (k:IntKind):TI:=⟨1,b,[.int k 0],.int k⟩
def G8:TI:=⟨1,16,[.nilIface],.iface⟩
def Ni:TI:=⟨1,8,[.nilFunc],.func⟩
def Rh:TI:=⟨1,16,[.str []],.string⟩
def Wc:TI:=Ni
def Wb:TI:=ZD 8 .i64
def Wa:TI:=ZD 8 .i64
def Ul:TI:=⟨1,1,[.bool false],.bool⟩
def Td:TI:=⟨1,1,[.int .u8 0],.int .u8⟩
def Ue:TI:=⟨1,1,[.int .u8 0],.int .u8⟩
def Tn:TI:=⟨4,24,[.int .i64 0,.int .i64 0,.bool false,.int .u8 0],.struct [(0,2),(1,3),(2,4),(3,6)]⟩
def Tm:TI:=Rh
def A12:TI:=Rh
def A11:TI:=Rh
def A10:TI:=ZD 8 .u64
def A1z:TI:=LF 450
def A1y:TI:=LF 453
def A1x:TI:=LF 462
def A1w:TI:=G8
def A1v:TI:=Ua 28
def A1u:TI:=ZD 1 .i8
def A1t:TI:=Ua 86
def A1s:TI:=⟨5,56,[.int .i64 0,.int .i64 0,.int .i64 0,.bool false,.slice .nil 0 []],.struct [(0,3),(1,3),(2,3),(3,4),(4,24)]⟩
def A1r:TI:=⟨15,136,[.int .i8 0,.int .i64 0,.int .i64 0,.int .i64 0,.int .i64 0,.int .i64 0,.int .i64 0,.int .i64 0,.int .i64 0,.bool false,.int .i64 0,.int .i64 0,.int .i64 0,.bool false,.slice .nil 0 []],.struct [(0,23),(1,3),(2,3),(3,3),(4,3),(5,3),(6,3),(7,3),(8,3),(9,4),(10,26)]⟩
def A1q:TI:=Ua 106
def A1p:TI:=Ua 75
def A1o:TI:=Ua 210
def Mi:TI:=⟨5,88,[.int .i64 0,.int .i64 0,.slice .nil 0 [],.slice .nil 0 [],.slice .nil 0 []],.struct [(0,3),(1,3),(2,32),(3,33),(4,34)]⟩
def A1n:TI:=⟨15,264,[.int .i64 0,.int .i64 0,.slice .nil 0 [],.slice .nil 0 [],.slice .nil 0 [],.int .i64 0,.int .i64 0,.slice .nil 0 [],.slice .nil 0 [],.slice .nil 0 [],.int .i64 0,.int .i64 0,.slice .nil 0 [],.slice .nil 0 [],.slice .nil 0 []],.array 3 36⟩
def A1m:TI:=Ua 3
def A1l:TI:=Ua 80
def Vy:TI:=⟨8,96,[.int .i8 0,.int .i64 0,.int .i64 0,.int .i64 0,.int .i64 0,.slice .nil 0 [],.slice .nil 0 [],.int .i64 0],.struct [(0,23),(1,3),(2,3),(3,3),(4,3),(5,38),(6,39),(7,3)]⟩
def A1k:TI:=⟨24,288,[.int .i8 0,.int .i64 0,.int .i64 0,.int .i64 0,.int .i64 0,.slice .nil 0 [],.slice .nil 0 [],.int .i64 0,.int .i8 0,.int .i64 0,.int .i64 0,.int .i64 0,.int .i64 0,.slice .nil 0 [],.slice .nil 0 [],.int .i64 0,.int .i8 0,.int .i64 0,.int .i64 0,.int .i64 0,.int .i64 0,.slice .nil 0 [],.slice .nil 0 [],.int .i64 0],.array 3 41⟩
def A1j:TI:=⟨3,24,[.int .i64 0,.int .i64 0,.int .i64 0],.array 3 3⟩
def A1i:TI:=⟨6,48,[.int .i64 0,.int .i64 0,.int .i64 0,.int .i64 0,.int .i64 0,.int .i64 0],.array 2 43⟩
def Awk:TI:=⟨31,344,[.int .i64 0,.int .i8 0,.int .i64 0,.int .i64 0,.int .i64 0,.int .i64 0,.slice .nil 0 [],.slice .nil 0 [],.int .i64 0,.int .i8 0,.int .i64 0,.int .i64 0,.int .i64 0,.int .i64 0,.slice .nil 0 [],.slice .nil 0 [],.int .i64 0,.int .i8 0,.int .i64 0,.int .i64 0,.int .i64 0,.int .i64 0,.slice .nil 0 [],.slice .nil 0 [],.int .i64 0,.int .i64 0,.int .i64 0,.int .i64 0,.int .i64 0,.int .i64 0,.int .i64 0],.struct [(0,3),(1,42),(25,44)]⟩
def A1h:TI:=⟨47,616,[.int .i8 0,.int .i64 0,.int .i64 0,.slice .nil 0 [],.slice .nil 0 [],.slice .nil 0 [],.int .i64 0,.int .i64 0,.slice .nil 0 [],.slice .nil 0 [],.slice .nil 0 [],.int .i64 0,.int .i64 0,.slice .nil 0 [],.slice .nil 0 [],.slice .nil 0 [],.int .i64 0,.int .i8 0,.int .i64 0,.int .i64 0,.int .i64 0,.int .i64 0,.slice .nil 0 [],.slice .nil 0 [],.int .i64 0,.int .i8 0,.int .i64 0,.int .i64 0,.int .i64 0,.int .i64 0,.slice .nil 0 [],.slice .nil 0 [],.int .i64 0,.int .i8 0,.int .i64 0,.int .i64 0,.int .i64 0,.int .i64 0,.slice .nil 0 [],.slice .nil 0 [],.int .i64 0,.int .i64 0,.int .i64 0,.int .i64 0,.int .i64 0,.int .i64 0,.int .i64 0],.struct [(0,23),(1,37),(16,46)]⟩
def A1g:TI:=Ua 60
def A1f:TI:=ZD 8 .i64
def Ao5:TI:=⟨6,64,[.int .i8 0,.int .i64 0,.int .i64 0,.int .i64 0,.int .i64 0,.slice .nil 0 []],.struct [(0,23),(1,52),(2,3),(3,3),(4,3),(5,32)]⟩
def A1e:TI:=Ua 273
def Atu:TI:=⟨48,640,[.slice .nil 0 [],.int .i8 0,.int .i64 0,.int .i64 0,.slice .nil 0 [],.slice .nil 0 [],.slice .nil 0 [],.int .i64 0,.int .i64 0,.slice .nil 0 [],.slice .nil 0 [],.slice .nil 0 [],.int .i64 0,.int .i64 0,.slice .nil 0 [],.slice .nil 0 [],.slice .nil 0 [],.int .i64 0,.int .i8 0,.int .i64 0,.int .i64 0,.int .i64 0,.int .i64 0,.slice .nil 0 [],.slice .nil 0 [],.int .i64 0,.int .i8 0,.int .i64 0,.int .i64 0,.int .i64 0,.int .i64 0,.slice .nil 0 [],.slice .nil 0 [],.int .i64 0,.int .i8 0,.int .i64 0,.int .i64 0,.int .i64 0,.int .i64 0,.slice .nil 0 [],.slice .nil 0 [],.int .i64 0,.int .i64 0,.int .i64 0,.int .i64 0,.int .i64 0,.int .i64 0,.int .i64 0],.struct [(0,58),(1,48)]⟩
def A1d:TI:=Ua 26
def Ajf:TI:=⟨3,40,[.int .i64 0,.int .i64 0,.slice .nil 0 []],.struct [(0,3),(1,3),(2,73)]⟩
def A1c:TI:=⟨3,24,[.int .i64 0,.int .i64 0,.int .i64 0],.struct [(0,3),(1,3),(2,3)]⟩
def A1b:TI:=⟨2,32,[.str [],.str []],.struct [(0,9),(1,9)]⟩
def A1a:TI:=LF 91
def A09:TI:=⟨62,752,[.int .i8 0,.int .i64 0,.int .i64 0,.slice .nil 0 [],.slice .nil 0 [],.slice .nil 0 [],.int .i64 0,.int .i64 0,.slice .nil 0 [],.slice .nil 0 [],.slice .nil 0 [],.int .i64 0,.int .i64 0,.slice .nil 0 [],.slice .nil 0 [],.slice .nil 0 [],.int .i64 0,.int .i8 0,.int .i64 0,.int .i64 0,.int .i64 0,.int .i64 0,.slice .nil 0 [],.slice .nil 0 [],.int .i64 0,.int .i8 0,.int .i64 0,.int .i64 0,.int .i64 0,.int .i64 0,.slice .nil 0 [],.slice .nil 0 [],.int .i64 0,.int .i8 0,.int .i64 0,.int .i64 0,.int .i64 0,.int .i64 0,.slice .nil 0 [],.slice .nil 0 [],.int .i64 0,.int .i64 0,.int .i64 0,.int .i64 0,.int .i64 0,.int .i64 0,.int .i64 0,.int .i8 0,.int .i64 0,.int .i64 0,.int .i64 0,.int .i64 0,.int .i64 0,.int .i64 0,.int .i64 0,.int .i64 0,.bool false,.int .i64 0,.int .i64 0,.int .i64 0,.bool false,.slice .nil 0 []],.struct [(0,48),(47,28)]⟩
def A08:TI:=Ni
def A07:TI:=⟨1,8,[.nilMap],.map 23 93⟩
def A06:TI:=G8
def Azk:TI:=⟨5,56,[.int .i64 0,.int .i64 0,.int .i64 0,.str [],.str []],.struct [(0,3),(1,3),(2,3),(3,9),(4,9)]⟩
def Azj:TI:=Ua 5
def Azi:TI:=Ni
def Azh:TI:=LF 52
def Azg:TI:=Ua 41
def Azf:TI:=LF 132
def Aze:TI:=⟨2,24,[.str [],.int .i64 0],.struct [(0,9),(1,52)]⟩
def Azd:TI:=LF 48
def Azc:TI:=⟨17,168,[.int .i8 0,.int .i64 0,.int .i64 0,.int .i64 0,.int .i64 0,.int .i64 0,.bool false,.int .i64 0,.int .i8 0,.int .i64 0,.int .i64 0,.int .i64 0,.int .i64 0,.slice .nil 0 [],.slice .nil 0 [],.int .i64 0,.int .i64 0],.struct [(0,23),(1,3),(2,3),(3,80),(6,4),(7,3),(8,41),(16,3)]⟩
def Azb:TI:=LF 147
def Aza:TI:=LF 395
def Ay9:TI:=⟨18,184,[.nilPtr,.int .i8 0,.int .i64 0,.int .i64 0,.int .i64 0,.int .i64 0,.int .i64 0,.int .i64 0,.int .i64 0,.int .i64 0,.bool false,.int .i64 0,.int .i64 0,.int .i64 0,.bool false,.slice .nil 0 [],.slice .nil 0 [],.nilIface],.struct [(0,145),(1,28),(16,114),(17,98)]⟩
def Ay8:TI:=LF 151
def Ay7:TI:=⟨2,24,[.str [],.int .i64 0],.struct [(0,9),(1,52)]⟩
def Ay6:TI:=G8
def Ay5:TI:=ZD 8 .u64
def Ay4:TI:=⟨1,1,[.int .u8 0],.int .u8⟩
def Ay3:TI:=Ua 139
def Ay2:TI:=G8
def Ay1:TI:=LF 36
def Ay0:TI:=LF 199
def Ayz:TI:=⟨1,16,[.nilIface],.struct [(0,98)]⟩
def Ayy:TI:=Ua 1
def Ayx:TI:=Ni
def Ayw:TI:=Ua 281
def Ayv:TI:=⟨4,48,[.int .i64 0,.int .i64 0,.int .i64 0,.slice .nil 0 []],.struct [(0,3),(1,3),(2,3),(3,208)]⟩
def Ayu:TI:=Ni
def Ayt:TI:=Ni
def Ays:TI:=LF 216
def Ayr:TI:=⟨2,24,[.str [],.int .i64 0],.struct [(0,9),(1,52)]⟩
def Ayq:TI:=LF 222
def Ayp:TI:=⟨2,24,[.str [],.int .i64 0],.struct [(0,9),(1,52)]⟩
def Ayo:TI:=⟨18,192,[.int .i8 0,.int .i64 0,.int .i64 0,.int .i64 0,.bool false,.slice .nil 0 [],.bool false,.int .i64 0,.int .i64 0,.int .i64 0,.int .i64 0,.int .i64 0,.str [],.str [],.int .i64 0,.int .i64 0,.int .i64 0,.slice .nil 0 []],.struct [(0,23),(1,26),(6,4),(7,3),(8,3),(9,106),(14,210)]⟩
def Ayn:TI:=Ua 230
def Aym:TI:=LF 466
def Ayl:TI:=G8
def Ayk:TI:=G8
def Ayj:TI:=G8
def Ayi:TI:=Ua 98
def Ayh:TI:=G8
def Ayg:TI:=Ni
def Ayf:TI:=Ni
def Aye:TI:=LF 46
def Ayd:TI:=LF 266
def Ayc:TI:=⟨2,24,[.str [],.int .i64 0],.struct [(0,9),(1,52)]⟩
def TY:TI:=⟨4,48,[.int .i8 0,.str [],.str [],.int .i64 0],.struct [(0,23),(1,9),(2,9),(3,3)]⟩
def Ayb:TI:=⟨2,16,[.int .i8 0,.int .i64 0],.struct [(0,23),(1,3)]⟩
def Aya:TI:=⟨2,16,[.int .i8 0,.int .i64 0],.struct [(0,275)]⟩
def Ax9:TI:=⟨2,16,[.int .i8 0,.int .i64 0],.struct [(0,275)]⟩
def Ax8:TI:=⟨3,24,[.int .i64 0,.int .i64 0,.int .i64 0],.struct [(0,3),(1,3),(2,3)]⟩
def Ax7:TI:=Ni
def Ax6:TI:=Ni
def Ax5:TI:=Ni
def Ax4:TI:=Ni
def Ax3:TI:=Ni
def Ax2:TI:=Ni
def Ax1:TI:=Ni
def Ax0:TI:=Ua 9
def Axz:TI:=Ni
def Axy:TI:=⟨31,344,[.int .i64 0,.int .i8 0,.int .i64 0,.int .i64 0,.int .i64 0,.int .i64 0,.slice .nil 0 [],.slice .nil 0 [],.int .i64 0,.int .i8 0,.int .i64 0,.int .i64 0,.int .i64 0,.int .i64 0,.slice .nil 0 [],.slice .nil 0 [],.int .i64 0,.int .i8 0,.int .i64 0,.int .i64 0,.int .i64 0,.int .i64 0,.slice .nil 0 [],.slice .nil 0 [],.int .i64 0,.int .i64 0,.int .i64 0,.int .i64 0,.int .i64 0,.int .i64 0,.int .i64 0],.struct [(0,46)]⟩
def Axx:TI:=Ni
def Axw:TI:=Ni
def Axv:TI:=Ni
def Axu:TI:=Ni
def Axt:TI:=LF 333
def Axs:TI:=⟨2,24,[.str [],.int .i64 0],.struct [(0,9),(1,52)]⟩
def Axr:TI:=LF 336
def Axq:TI:=⟨2,32,[.slice .nil 0 [],.int .i64 0],.struct [(0,114),(1,52)]⟩
def Axp:TI:=LF 3
def Axo:TI:=LF 139
def Axn:TI:=G8
def Axm:TI:=⟨2,24,[.nilIface,.nilPtr],.struct [(0,341),(1,339)]⟩
def Axl:TI:=Ni
def Axk:TI:=Ni
def Axj:TI:=Ni
def Axi:TI:=Ni
def Axh:TI:=LF 374
def Axg:TI:=⟨2,24,[.str [],.int .i64 0],.struct [(0,9),(1,52)]⟩
def Axf:TI:=Ni
def Axe:TI:=Ni
def Axd:TI:=⟨8,64,.replicate 8 (.nilFunc),.array 8 378⟩
def Axc:TI:=LF 382
def Axb:TI:=⟨1,8,[.int .i64 0],.struct [(0,52)]⟩
def Asq:TI:=⟨4,4,[.int .u8 0,.int .u8 0,.int .u8 0,.int .u8 0],.array 4 5⟩
def Axa:TI:=LF 393
def Aw9:TI:=⟨2,24,[.str [],.int .i64 0],.struct [(0,9),(1,52)]⟩
def Aw8:TI:=⟨3,32,[.str [],.int .i64 0,.bool false],.struct [(0,9),(1,3),(2,4)]⟩
def Aw7:TI:=Ni
def Aw6:TI:=LF 401
def Aw5:TI:=⟨2,16,[.int .i64 0,.int .i64 0],.struct [(0,3),(1,52)]⟩
def Aw4:TI:=Ni
def Aw3:TI:=ZD 8 .u64
def Aw2:TI:=LF 408
def Aw1:TI:=⟨2,16,[.int .i64 0,.int .i64 0],.struct [(0,3),(1,52)]⟩
def Aw0:TI:=LF 412
def Awz:TI:=⟨2,32,[.slice .nil 0 [],.int .i64 0],.struct [(0,114),(1,52)]⟩
def Awy:TI:=Ni
def Awx:TI:=Ni
def Aww:TI:=LF 80
def Awv:TI:=LF 4
def Awu:TI:=LF 427
def Awt:TI:=⟨2,24,[.str [],.int .i64 0],.struct [(0,9),(1,52)]⟩
def Aws:TI:=Ua 114
def Awr:TI:=⟨7,56,[.nilFunc,.nilFunc,.nilFunc,.nilFunc,.nilFunc,.nilFunc,.nilFunc],.array 7 413⟩
def Awq:TI:=⟨2,32,[.slice .nil 0 [],.int .i64 0],.struct [(0,114),(1,3)]⟩
def Awp:TI:=LF 437
def Awo:TI:=LF 446
def Awn:TI:=⟨2,16,[.int .i64 0,.int .i64 0],.struct [(0,3),(1,52)]⟩
def Awm:TI:=ZD 4 .u32
def Awl:TI:=ZD 4 .i32
def Awj:TI:=ZD 4 .i32
def Awi:TI:=⟨24,24,.replicate 24 (.int .u8 0),.array 24 5⟩
def Awh:TI:=ZD 8 .u64
def Awg:TI:=⟨20,160,.replicate 20 (.int .u64 0),.array 20 470⟩
def Awf:TI:=⟨32,32,.replicate 32 (.int .u8 0),.array 32 5⟩
def Awe:TI:=⟨64,64,.replicate 64 (.int .u8 0),.array 64 5⟩
def Awd:TI:=LF 490
def Awc:TI:=Ua 494
def Awb:TI:=ZD 4 .i32
def Awa:TI:=LF 98
def te:TE:=[(1,Wc),(2,Wb),(3,Wa),(4,Ul),(5,Td),(6,Ue),(8,Tn),(9,Tm),(10,A12),(11,A11),(12,A10),(15,A1z),(16,A1y),(17,A1x),(20,A1w),(22,A1v),(23,A1u),(24,A1t),(26,A1s),(28,A1r),(32,A1q),(33,A1p),(34,A1o),(36,Mi),(37,A1n),(38,A1m),(39,A1l),(41,Vy),(42,A1k),(43,A1j),(44,A1i),(46,Awk),(48,A1h),(51,A1g),(52,A1f),(54,Ao5),(58,A1e),(60,Atu),(73,A1d),(75,Ajf),(80,A1c),(86,A1b),(87,A1a),(91,A09),(93,A08),(95,A07),(98,A06),(106,Azk),(114,Azj),(119,Azi),(122,Azh),(125,Azg),(130,Azf),(132,Aze),(137,Azd),(139,Azc),(144,Azb),(145,Aza),(147,Ay9),(149,Ay8),(151,Ay7),(163,Ay6),(167,Ay5),(172,Ay4),(185,Ay3),(187,Ay2),(193,Ay1),(197,Ay0),(199,Ayz),(202,Ayy),(206,Ayx),(208,Ayw),(210,Ayv),(211,Ayu),(213,Ayt),(214,Ays),(216,Ayr),(220,Ayq),(222,Ayp),(230,Ayo),(231,Ayn),(234,Aym),(235,Ayl),(238,Ayk),(240,Ayj),(241,Ayi),(245,Ayh),(252,Ayg),(254,Ayf),(263,Aye),(264,Ayd),(266,Ayc),(273,TY),(275,Ayb),(277,Aya),(278,Ax9),(281,Ax8),(283,Ax7),(286,Ax6),(292,Ax5),(295,Ax4),(297,Ax3),(299,Ax2),(309,Ax1),(311,Ax0),(315,Axz),(317,Axy),(318,Axx),(320,Axw),(325,Axv),(326,Axu),(331,Axt),(333,Axs),(334,Axr),(336,Axq),(338,Axp),(339,Axo),(341,Axn),(343,Axm),(354,Axl),(361,Axk),(367,Axj),(370,Axi),(372,Axh),(374,Axg),(376,Axf),(378,Axe),(379,Axd),(380,Axc),(382,Axb),(384,Asq),(391,Axa),(393,Aw9),(395,Aw8),(396,Aw7),(399,Aw6),(401,Aw5),(402,Aw4),(405,Aw3),(406,Aw2),(408,Aw1),(410,Aw0),(412,Awz),(413,Awy),(415,Awx),(418,Aww),(420,Awv),(425,Awu),(427,Awt),(431,Aws),(434,Awr),(437,Awq),(443,Awp),(444,Awo),(446,Awn),(455,Awm),(459,Awl),(460,Awj),(469,Awi),(470,Awh),(476,Awg),(480,Awf),(481,Awe),(486,Awd),(491,Awc),(492,Awb),(495,Awa)]
theorem Azl:Dr Tryz.prog []:=λt ti h=>by cases h
theorem Atw {t:Nat} {ti:TI} {r:TE} (hr:Dr Tryz.prog r) (a:(Tryz.prog.info? t).map (λi=>(i.size,i.bytes,i.zero))=some (ti.size,ti.bytes,some (BJ ti)):=by kernel_rfl) (b:(Tryz.prog.underlying t).map Dp=some ti.kind:=by kernel_rfl) (c:ti.zero.all GV=true:=by kernel_rfl) (d:ti.zero.length=ti.size:=by kernel_rfl) (e:ti.kind.agg=false->ti.size=1:=by first|exact λ_=>rfl|(intro h;cases h;done)) (f:Ys ti.kind=true->Amr Tryz.prog t=true:=by first|(intro h;kernel_rfl)|(intro h;cases h;done)):Dr Tryz.prog ((t,ti)::r):=λu ui hu=>by
 rw[Ap]at hu;split at hu
 ·rename_i e0;subst e0;cases hu;exact⟨a,b,c,d,e,f⟩
 ·exact hr u ui hu
set_option maxRecDepth 100000 in
theorem A13:Dr Tryz.prog te:=by
 unfold te
 repeat'(first|exact Azl|refine Atw ?_)
def Um (a b:String):String:=(a.push (Char.ofNat 47))++b
def Akv:String:=Um "roving" "engine.place"
def Az5:String:=Um "roving" "engine.end"
def Asz:String:=Um "roving" "engine.more"
def Az3:String:=Um "roving" "engine.log"
def Aqk:String:=Um "roving" "metalog.number"
def Az4:String:=Um "roving" "metalog.flag"
def Au5 (t:Nat) (name:String):Option (Nat×Rc):=
 if t=277 then(if name=Akv then some (379,.self)else(if name=Az5 then some (377,.self)else(if name=Asz then some (378,.self)else(if name=Az3 then some (361,.fld 0 2)else none))))
 else if t=278 then(if name=Akv then some (383,.self)else(if name=Az5 then some (381,.self)else(if name=Asz then some (382,.self)else(if name=Az3 then some (361,.fld 0 2)else none))))
 else if t=334 then(if name=Aqk then some (215,.self)else(if name=Az4 then some (388,.self)else none))
 else if t=214 then(if name= "Unwrap" then some (345,.self)else none)
 else none
def Rb:Conf:={te:=te,imm:=[216,408,382,222,374,427,151,266,333,132,401,199],own:=[],inv:=Au5,ownR:=[152,153,192,103,230,186],sp:=λ_ _ _=>none}
theorem Ap6:Tryz.prog.follows .mixedOrders=true:=Ab
theorem Akd:(Tryz.prog.funcs.toList.all λfn=> !(fn.name== "runtime.NumGoroutine"))=true:=Ab
theorem Az8: ∀t name f rc,Au5 t name=some (f,rc)->Ate Tryz.prog t name f rc:=by
 intro t name f rc h;unfold Au5 at h
 repeat' split at h
 all_goals first|(cases h;done)|(subst_vars;cases h;exact λw v=>Ab)
theorem Ai:ProgOk Tryz.prog Rb where
 te:=A13
 inv:=Az8
 num:=λf fn h=>by
  have h0:=Akd;rw[A21]at h0;have:=h0 fn (Apj (by rw[Agx];exact h))
  simpa using this
 mix:=Ap6
 sp:=λf az σ r σ' h=>by cases h
