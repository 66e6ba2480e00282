/-
  The code of functions of the program, as the abstract executor reads it. No conditions: definitions and closed facts.
-/
import Derived.Test.YtbaolbofgleabaaGreatDoorEng9
import Derived.Test.YtbaolbofgleabaaGreatDoorChecked
set_option linter.all false
set_option maxRecDepth 100000
noncomputable section
namespace Go.Lyc.C
open Go.Lyc
abbrev K(n:Int):AV:=.i .i64 n
abbrev B(n:Int):AV:=.i .u8 n
abbrev E:AV:=.s []
abbrev T(l:List AV):AV:=.aV true (some 4) l
abbrev F(l:List AV):AV:=.aV false (some 4) l
end Go.Lyc.C
namespace Go.Lyc.T
open Go.Lyc Go.Lyc.C Go.Proofs
open Tryz
noncomputable def b5U:Program:=⟨progTables,#[]⟩
noncomputable def aX(f:Func):gr:=b5t b5U f
def gK:=aX f3
def F5:=aX f5
def lI:=aX f6
def F6:=aX f7
def F7:=aX f9
def F8:=aX f10
def Lr:=aX f11
def Ls:=aX f12
def F9:=aX f22
def CY:=aX f23
def Lt:=aX f24
def Lu:=aX f25
def F_:=aX f26
def Lv:=aX f27
def CZ:=aX f28
def Lw:=aX f29
def Ga:=aX f30
def Lx:=aX f31
def Ly:=aX f32
def Gb:=aX f33
def a1i:=aX f41
def R5:=aX f42
def Lz:=aX f43
def LA:=aX f44
def LB:=aX f45
def LC:=aX f46
def LD:=aX f48
def Gc:=aX f53
def LF:=aX f55
def R6:=aX f56
def C0:=aX f58
def C1:=aX f59
def LG:=aX f60
def Gd:=aX f65
def LH:=aX f66
def LI:=aX f67
def LJ:=aX f68
def Ge:=aX f69
def Gf:=aX f70
def R7:=aX f71
def R8:=aX f72
def R9:=aX f73
def LK:=aX f74
def C2:=aX f86
def LL:=aX f87
def LM:=aX f88
def Gg:=aX f89
def R_:=aX f90
def Gh:=aX f91
def LN:=aX f95
def Gi:=aX f96
def Sa:=aX f102
def LO:=aX f103
def Gj:=aX f104
def Gk:=aX f105
def x9:=aX f106
def Gl:=aX f107
def Sb:=aX f108
def Sc:=aX f109
def LP:=aX f110
def LQ:=aX f113
def Sd:=aX f128
def LR:=aX f129
def LS:=aX f130
def LU:=aX f131
def LV:=aX f132
def LW:=aX f133
def LX:=aX f134
def Se:=aX f141
def LY:=aX f142
def Sf:=aX f143
def Sg:=aX f144
def Sh:=aX f145
def Si:=aX f146
def Sj:=aX f147
def LZ:=aX f148
def L0:=aX f149
def Gm:=aX f150
def C3:=aX f151
def C4:=aX f152
def tz:=aX f153
def L1:=aX f154
def L2:=aX f155
def L3:=aX f156
def C5:=aX f178
def L4:=aX f179
def L5:=aX f180
def Sk:=aX f181
def L6:=aX f182
def L7:=aX f183
def Gn:=aX f184
def Sm:=aX f186
def L8:=aX f197
def Ah:=aX f198
def L9:=aX f204
def sw:=aX f208
def Ai:=aX f231
def x_:=aX f232
def L_:=aX f233
def Sn:=aX f234
def Ma:=aX f241
def Mb:=aX f242
def Mc:=aX f243
def Gp:=aX f253
def Md:=aX f267
def Aj:=aX f273
def Me:=aX f290
def Mf:=aX f291
def Gq:=aX f299
def Mg:=aX f300
def Gr:=aX f301
def So:=aX f314
def Gs:=aX f337
def Gt:=aX f343
def Gu:=aX f344
def Sp:=aX f345
def Mh:=aX f346
def C6:=aX f394
def C7:=aX f395
def wF:=aX f396
def Ak:=aX f419
def Al:=aX f420
def ya:=aX f428
end Go.Lyc.T
