import Derived.Shelf.Abstract
import Derived.Test.YtaglpcmhopjebaaGreatDoorRows
import Derived.LaidMore
import Derived.Lay
import Derived.LaidHandle
import Derived.Test.YtaglpcmhopjebaaGreatDoorQ18
set_option linter.all false
set_option maxRecDepth 100000
set_option maxHeartbeats 20000000
namespace Go.Proofs
open Go.Tm Go.Shelf
def gQ:List Nat:=[3,4,5,6,7,8,9,10,11,12,13,14,15,16,17,18,19,20,21,22,23,24,25,26,27,28,29,30,31,32,33,34,35,36,37,38,39,40,41,42,43,44,45,46,47,48,49,50,51,52,53,54,55,56,57,58,59,60,61,62,63,64,65,66,67,68,69,70,71,72,73,75,76,77,78,79,80,81,82,83,84,85,86,87,88,89,90,91,92,93,94,95,96,97,98,99,100,101,102,103,104,105,106,107,108,109,110,111,112,113,114,115,116,117,118,119,120,121,125,128,129,130,131,132,133,134,135,136,137,138,139,140,141,142,143,162,163,164,165,166,167,173,174,175,176,177,178,179,180,181,182,183,184,185,186,187,188,189,190,191,192,193,194,195,196,197,198,199,200,201,202,203,204,205,206,207,208,209,210,211,212,230,231,232,233,234,235,236,237,238,239,240,241,242,243,244,245]
noncomputable def nv:Func:={Tryz.f95 with body:=some (.seq (.region 0 #[⟨some 2,.assign (.const (.string ⟨#[]⟩)),9,"builder.go:46",#[],none⟩] false) (.seq (.region 1 #[
 ⟨some 3,.move (.tmp 0),151,"builder.go:47",#[],none⟩,⟨some 4,.nilCheck (.tmp 3),0,"builder.go:47",#[⟨0,.data⟩],none⟩,⟨some 5,.fieldAddr 153 (.tmp 4) 1,0,"builder.go:47",#[⟨1,.data⟩],none⟩,
 ⟨some 6,.load 120 (.tmp 5),120,"builder.go:47",#[⟨2,.data⟩],none⟩,⟨some 7,.call ⟨.builtin .unsafeSliceData,#[.tmp 6],#[120]⟩,pN,"builder.go:47",#[⟨3,.data⟩],none⟩,
 ⟨some 8,.move (.tmp 0),151,"builder.go:47",#[],none⟩,⟨some 9,.nilCheck (.tmp 8),0,"builder.go:47",#[⟨5,.data⟩],none⟩,⟨some 10,.fieldAddr 153 (.tmp 9) 1,0,"builder.go:47",#[⟨6,.data⟩],none⟩,
 ⟨some 11,.load 120 (.tmp 10),120,"builder.go:47",#[⟨7,.data⟩],none⟩,⟨some 12,.call ⟨.builtin .len,#[.tmp 11],#[120]⟩,3,"builder.go:47",#[⟨8,.data⟩],none⟩,
 ⟨some 13,.call ⟨.builtin .unsafeString,#[.tmp 7,.tmp 12],#[203,3]⟩,9,"builder.go:47",#[⟨4,.data⟩,⟨9,.data⟩],none⟩,
 ⟨some 2,.assign (.tmp 13),9,"builder.go:47",#[⟨10,.data⟩,⟨0,.phase⟩,⟨1,.phase⟩,⟨2,.phase⟩,⟨3,.phase⟩,⟨4,.phase⟩,⟨5,.phase⟩,⟨6,.phase⟩,⟨7,.phase⟩,⟨8,.phase⟩,⟨9,.phase⟩,⟨10,.phase⟩],none⟩] true) .ret))}
def EM:Tryz.f95.body.map gp=nv.body:=by kernel_rfl
def bU(fs:Array Func):Prop:=(∀i∈gQ,i≠95->(Qs fs).funcs[i]? =Tryz.prog.funcs[i]?)/\(Qs fs).funcs[95]? =some nv
section
variable {fs:Array Func} (L:bU fs)
def n3:=(L.1 3 (by decide) (by decide)).trans Tryz.func3
def n4:=(L.1 4 (by decide) (by decide)).trans Tryz.func4
def n5:=(L.1 5 (by decide) (by decide)).trans Tryz.func5
def n6:=(L.1 6 (by decide) (by decide)).trans Tryz.func6
def n7:=(L.1 7 (by decide) (by decide)).trans Tryz.func7
def n8:=(L.1 8 (by decide) (by decide)).trans Tryz.func8
def n9:=(L.1 9 (by decide) (by decide)).trans Tryz.func9
def n10:=(L.1 10 (by decide) (by decide)).trans Tryz.func10
def n11:=(L.1 11 (by decide) (by decide)).trans Tryz.func11
def n12:=(L.1 12 (by decide) (by decide)).trans Tryz.func12
def n13:=(L.1 13 (by decide) (by decide)).trans Tryz.func13
def n14:=(L.1 14 (by decide) (by decide)).trans Tryz.func14
def n15:=(L.1 15 (by decide) (by decide)).trans Tryz.func15
def n16:=(L.1 16 (by decide) (by decide)).trans Tryz.func16
def n17:=(L.1 17 (by decide) (by decide)).trans Tryz.func17
def n18:=(L.1 18 (by decide) (by decide)).trans Tryz.func18
def n19:=(L.1 19 (by decide) (by decide)).trans Tryz.func19
def n20:=(L.1 20 (by decide) (by decide)).trans Tryz.func20
def n21:=(L.1 21 (by decide) (by decide)).trans Tryz.func21
def n22:=(L.1 22 (by decide) (by decide)).trans Tryz.func22
def n23:=(L.1 23 (by decide) (by decide)).trans Tryz.func23
def n25:=(L.1 25 (by decide) (by decide)).trans Tryz.func25
def n29:=(L.1 29 (by decide) (by decide)).trans Tryz.func29
def n31:=(L.1 31 (by decide) (by decide)).trans Tryz.func31
def n36:=(L.1 36 (by decide) (by decide)).trans Tryz.func36
def n37:=(L.1 37 (by decide) (by decide)).trans Tryz.func37
def n38:=(L.1 38 (by decide) (by decide)).trans Tryz.func38
def n40:=(L.1 40 (by decide) (by decide)).trans Tryz.func40
def n46:=(L.1 46 (by decide) (by decide)).trans Tryz.func46
def n50:=(L.1 50 (by decide) (by decide)).trans Tryz.func50
def n51:=(L.1 51 (by decide) (by decide)).trans Tryz.func51
def n52:=(L.1 52 (by decide) (by decide)).trans Tryz.func52
def n53:=(L.1 53 (by decide) (by decide)).trans Tryz.func53
def n54:=(L.1 54 (by decide) (by decide)).trans Tryz.func54
def n55:=(L.1 55 (by decide) (by decide)).trans Tryz.func55
def n56:=(L.1 56 (by decide) (by decide)).trans Tryz.func56
def n57:=(L.1 57 (by decide) (by decide)).trans Tryz.func57
def n58:=(L.1 58 (by decide) (by decide)).trans Tryz.func58
def n59:=(L.1 59 (by decide) (by decide)).trans Tryz.func59
def n60:=(L.1 60 (by decide) (by decide)).trans Tryz.func60
def n61:=(L.1 61 (by decide) (by decide)).trans Tryz.func61
def n62:=(L.1 62 (by decide) (by decide)).trans Tryz.func62
def n63:=(L.1 63 (by decide) (by decide)).trans Tryz.func63
def n64:=(L.1 64 (by decide) (by decide)).trans Tryz.func64
def n65:=(L.1 65 (by decide) (by decide)).trans Tryz.func65
def n66:=(L.1 66 (by decide) (by decide)).trans Tryz.func66
def n67:=(L.1 67 (by decide) (by decide)).trans Tryz.func67
def n70:=(L.1 70 (by decide) (by decide)).trans Tryz.func70
def n72:=(L.1 72 (by decide) (by decide)).trans Tryz.func72
def n73:=(L.1 73 (by decide) (by decide)).trans Tryz.func73
def n77:=(L.1 77 (by decide) (by decide)).trans Tryz.func77
def n78:=(L.1 78 (by decide) (by decide)).trans Tryz.func78
def n79:=(L.1 79 (by decide) (by decide)).trans Tryz.func79
def n80:=(L.1 80 (by decide) (by decide)).trans Tryz.func80
def n81:=(L.1 81 (by decide) (by decide)).trans Tryz.func81
def n82:=(L.1 82 (by decide) (by decide)).trans Tryz.func82
def n83:=(L.1 83 (by decide) (by decide)).trans Tryz.func83
def n84:=(L.1 84 (by decide) (by decide)).trans Tryz.func84
def n85:=(L.1 85 (by decide) (by decide)).trans Tryz.func85
def n88:=(L.1 88 (by decide) (by decide)).trans Tryz.func88
def n89:=(L.1 89 (by decide) (by decide)).trans Tryz.func89
def n91:=(L.1 91 (by decide) (by decide)).trans Tryz.func91
def n93:=(L.1 93 (by decide) (by decide)).trans Tryz.func93
def n94:=(L.1 94 (by decide) (by decide)).trans Tryz.func94
def n95:=L.2
def n96:=(L.1 96 (by decide) (by decide)).trans Tryz.func96
def n97:=(L.1 97 (by decide) (by decide)).trans Tryz.func97
def n98:=(L.1 98 (by decide) (by decide)).trans Tryz.func98
def n99:=(L.1 99 (by decide) (by decide)).trans Tryz.func99
def n100:=(L.1 100 (by decide) (by decide)).trans Tryz.func100
def n101:=(L.1 101 (by decide) (by decide)).trans Tryz.func101
def n102:=(L.1 102 (by decide) (by decide)).trans Tryz.func102
def n103:=(L.1 103 (by decide) (by decide)).trans Tryz.func103
def n104:=(L.1 104 (by decide) (by decide)).trans Tryz.func104
def n105:=(L.1 105 (by decide) (by decide)).trans Tryz.func105
def n106:=(L.1 106 (by decide) (by decide)).trans Tryz.func106
def n107:=(L.1 107 (by decide) (by decide)).trans Tryz.func107
def n108:=(L.1 108 (by decide) (by decide)).trans Tryz.func108
def n109:=(L.1 109 (by decide) (by decide)).trans Tryz.func109
def n110:=(L.1 110 (by decide) (by decide)).trans Tryz.func110
def n111:=(L.1 111 (by decide) (by decide)).trans Tryz.func111
def n112:=(L.1 112 (by decide) (by decide)).trans Tryz.func112
def n113:=(L.1 113 (by decide) (by decide)).trans Tryz.func113
def n114:=(L.1 114 (by decide) (by decide)).trans Tryz.func114
def n115:=(L.1 115 (by decide) (by decide)).trans Tryz.func115
def n116:=(L.1 116 (by decide) (by decide)).trans Tryz.func116
def n117:=(L.1 117 (by decide) (by decide)).trans Tryz.func117
def n118:=(L.1 118 (by decide) (by decide)).trans Tryz.func118
def n119:=(L.1 119 (by decide) (by decide)).trans Tryz.func119
def n120:=(L.1 120 (by decide) (by decide)).trans Tryz.func120
def n121:=(L.1 121 (by decide) (by decide)).trans Tryz.func121
def n125:=(L.1 125 (by decide) (by decide)).trans Tryz.func125
def n128:=(L.1 128 (by decide) (by decide)).trans Tryz.func128
def n129:=(L.1 129 (by decide) (by decide)).trans Tryz.func129
def n130:=(L.1 130 (by decide) (by decide)).trans Tryz.func130
def n131:=(L.1 131 (by decide) (by decide)).trans Tryz.func131
def n132:=(L.1 132 (by decide) (by decide)).trans Tryz.func132
def n133:=(L.1 133 (by decide) (by decide)).trans Tryz.func133
def n134:=(L.1 134 (by decide) (by decide)).trans Tryz.func134
def n135:=(L.1 135 (by decide) (by decide)).trans Tryz.func135
def n136:=(L.1 136 (by decide) (by decide)).trans Tryz.func136
def n137:=(L.1 137 (by decide) (by decide)).trans Tryz.func137
def n138:=(L.1 138 (by decide) (by decide)).trans Tryz.func138
def n139:=(L.1 139 (by decide) (by decide)).trans Tryz.func139
def n140:=(L.1 140 (by decide) (by decide)).trans Tryz.func140
def n141:=(L.1 141 (by decide) (by decide)).trans Tryz.func141
def n142:=(L.1 142 (by decide) (by decide)).trans Tryz.func142
def n143:=(L.1 143 (by decide) (by decide)).trans Tryz.func143
def n162:=(L.1 162 (by decide) (by decide)).trans Tryz.func162
def n163:=(L.1 163 (by decide) (by decide)).trans Tryz.func163
def n165:=(L.1 165 (by decide) (by decide)).trans Tryz.func165
def n166:=(L.1 166 (by decide) (by decide)).trans Tryz.func166
def n167:=(L.1 167 (by decide) (by decide)).trans Tryz.func167
def n173:=(L.1 173 (by decide) (by decide)).trans Tryz.func173
def n174:=(L.1 174 (by decide) (by decide)).trans Tryz.func174
def n175:=(L.1 175 (by decide) (by decide)).trans Tryz.func175
def n176:=(L.1 176 (by decide) (by decide)).trans Tryz.func176
def n179:=(L.1 179 (by decide) (by decide)).trans Tryz.func179
def n180:=(L.1 180 (by decide) (by decide)).trans Tryz.func180
def n181:=(L.1 181 (by decide) (by decide)).trans Tryz.func181
def n183:=(L.1 183 (by decide) (by decide)).trans Tryz.func183
def n192:=(L.1 192 (by decide) (by decide)).trans Tryz.func192
def n193:=(L.1 193 (by decide) (by decide)).trans Tryz.func193
def n194:=(L.1 194 (by decide) (by decide)).trans Tryz.func194
def n230:=(L.1 230 (by decide) (by decide)).trans Tryz.func230
def n231:=(L.1 231 (by decide) (by decide)).trans Tryz.func231
def n232:=(L.1 232 (by decide) (by decide)).trans Tryz.func232
def n233:=(L.1 233 (by decide) (by decide)).trans Tryz.func233
def n234:=(L.1 234 (by decide) (by decide)).trans Tryz.func234
def n235:=(L.1 235 (by decide) (by decide)).trans Tryz.func235
def n236:=(L.1 236 (by decide) (by decide)).trans Tryz.func236
def n237:=(L.1 237 (by decide) (by decide)).trans Tryz.func237
def n238:=(L.1 238 (by decide) (by decide)).trans Tryz.func238
def n240:=(L.1 240 (by decide) (by decide)).trans Tryz.func240
def n241:=(L.1 241 (by decide) (by decide)).trans Tryz.func241
def n242:=(L.1 242 (by decide) (by decide)).trans Tryz.func242
def n244:=(L.1 244 (by decide) (by decide)).trans Tryz.func244
def n245:=(L.1 245 (by decide) (by decide)).trans Tryz.func245
def e3:=λa w=>enters_of (n3 L) (by kernel_rfl) rfl a w
def e4:=λa w=>enters_of (n4 L) (by kernel_rfl) rfl a w
def e5:=λa w=>enters_of (n5 L) (by kernel_rfl) rfl a w
def e6:=λa w=>enters_of (n6 L) (by kernel_rfl) rfl a w
def e7:=λa w=>enters_of (n7 L) (by kernel_rfl) rfl a w
def e8:=λa w=>enters_of (n8 L) (by kernel_rfl) rfl a w
def e10:=λa w=>enters_of (n10 L) (by kernel_rfl) rfl a w
def e11:=λa w=>enters_of (n11 L) (by kernel_rfl) rfl a w
def e16:=λa w=>enters_of (n16 L) (by kernel_rfl) rfl a w
def e17:=λa w=>enters_of (n17 L) (by kernel_rfl) rfl a w
def e18:=λa w=>enters_of (n18 L) (by kernel_rfl) rfl a w
def e19:=λa w=>enters_of (n19 L) (by kernel_rfl) rfl a w
def e20:=λa w=>enters_of (n20 L) (by kernel_rfl) rfl a w
def e21:=λa w=>enters_of (n21 L) (by kernel_rfl) rfl a w
def e22:=λa w=>enters_of (n22 L) (by kernel_rfl) rfl a w
def e23:=λa w=>enters_of (n23 L) (by kernel_rfl) rfl a w
def e25:=λa w=>enters_of (n25 L) (by kernel_rfl) rfl a w
def e29:=λa w=>enters_of (n29 L) (by kernel_rfl) rfl a w
def e31:=λa w=>enters_of (n31 L) (by kernel_rfl) rfl a w
def e36:=λa w=>enters_of (n36 L) (by kernel_rfl) rfl a w
def e37:=λa w=>enters_of (n37 L) (by kernel_rfl) rfl a w
def e38:=λa w=>enters_of (n38 L) (by kernel_rfl) rfl a w
def e40:=λa w=>enters_of (n40 L) (by kernel_rfl) rfl a w
def e46:=λa w=>enters_of (n46 L) (by kernel_rfl) rfl a w
def e50:=λa w=>enters_of (n50 L) (by kernel_rfl) rfl a w
def e51:=λa w=>enters_of (n51 L) (by kernel_rfl) rfl a w
def e52:=λa w=>enters_of (n52 L) (by kernel_rfl) rfl a w
def e53:=λa w=>enters_of (n53 L) (by kernel_rfl) rfl a w
def e54:=λa w=>enters_of (n54 L) (by kernel_rfl) rfl a w
def e55:=λa w=>enters_of (n55 L) (by kernel_rfl) rfl a w
def e56:=λa w=>enters_of (n56 L) (by kernel_rfl) rfl a w
def e57:=λa w=>enters_of (n57 L) (by kernel_rfl) rfl a w
def e58:=λa w=>enters_of (n58 L) (by kernel_rfl) rfl a w
def e59:=λa w=>enters_of (n59 L) (by kernel_rfl) rfl a w
def e60:=λa w=>enters_of (n60 L) (by kernel_rfl) rfl a w
def e61:=λa w=>enters_of (n61 L) (by kernel_rfl) rfl a w
def e62:=λa w=>enters_of (n62 L) (by kernel_rfl) rfl a w
def e63:=λa w=>enters_of (n63 L) (by kernel_rfl) rfl a w
def e64:=λa w=>enters_of (n64 L) (by kernel_rfl) rfl a w
def e65:=λa w=>enters_of (n65 L) (by kernel_rfl) rfl a w
def e66:=λa w=>enters_of (n66 L) (by kernel_rfl) rfl a w
def e67:=λa w=>enters_of (n67 L) (by kernel_rfl) rfl a w
def e70:=λa w=>enters_of (n70 L) (by kernel_rfl) rfl a w
def e72:=λa w=>enters_of (n72 L) (by kernel_rfl) rfl a w
def e73:=λa w=>enters_of (n73 L) (by kernel_rfl) rfl a w
def e78:=λa w=>enters_of (n78 L) (by kernel_rfl) rfl a w
def e79:=λa w=>enters_of (n79 L) (by kernel_rfl) rfl a w
def e80:=λa w=>enters_of (n80 L) (by kernel_rfl) rfl a w
def e81:=λa w=>enters_of (n81 L) (by kernel_rfl) rfl a w
def e82:=λa w=>enters_of (n82 L) (by kernel_rfl) rfl a w
def e83:=λa w=>enters_of (n83 L) (by kernel_rfl) rfl a w
def e84:=λa w=>enters_of (n84 L) (by kernel_rfl) rfl a w
def e85:=λa w=>enters_of (n85 L) (by kernel_rfl) rfl a w
def e88:=λa w=>enters_of (n88 L) (by kernel_rfl) rfl a w
def e91:=λa w=>enters_of (n91 L) (by kernel_rfl) rfl a w
def e93:=λa w=>enters_of (n93 L) (by kernel_rfl) rfl a w
def e94:=λa w=>enters_of (n94 L) (by kernel_rfl) rfl a w
def e95:=λa w=>enters_of (n95 L) (by kernel_rfl) rfl a w
def e96:=λa w=>enters_of (n96 L) (by kernel_rfl) rfl a w
def e97:=λa w=>enters_of (n97 L) (by kernel_rfl) rfl a w
def e98:=λa w=>enters_of (n98 L) (by kernel_rfl) rfl a w
def e99:=λa w=>enters_of (n99 L) (by kernel_rfl) rfl a w
def PX:=λa w=>enters_of (n100 L) (by kernel_rfl) rfl a w
def Rn:=λa w=>enters_of (n101 L) (by kernel_rfl) rfl a w
def M7:=λa w=>enters_of (n102 L) (by kernel_rfl) rfl a w
def PY:=λa w=>enters_of (n103 L) (by kernel_rfl) rfl a w
def Ro:=λa w=>enters_of (n104 L) (by kernel_rfl) rfl a w
def P0:=λa w=>enters_of (n105 L) (by kernel_rfl) rfl a w
def Rp:=λa w=>enters_of (n106 L) (by kernel_rfl) rfl a w
def P1:=λa w=>enters_of (n107 L) (by kernel_rfl) rfl a w
def Rq:=λa w=>enters_of (n108 L) (by kernel_rfl) rfl a w
def M8:=λa w=>enters_of (n109 L) (by kernel_rfl) rfl a w
def P2:=λa w=>enters_of (n110 L) (by kernel_rfl) rfl a w
def P3:=λa w=>enters_of (n111 L) (by kernel_rfl) rfl a w
def P4:=λa w=>enters_of (n112 L) (by kernel_rfl) rfl a w
def P5:=λa w=>enters_of (n113 L) (by kernel_rfl) rfl a w
def Rr:=λa w=>enters_of (n114 L) (by kernel_rfl) rfl a w
def P6:=λa w=>enters_of (n115 L) (by kernel_rfl) rfl a w
def P7:=λa w=>enters_of (n116 L) (by kernel_rfl) rfl a w
def P8:=λa w=>enters_of (n117 L) (by kernel_rfl) rfl a w
def M9:=λa w=>enters_of (n118 L) (by kernel_rfl) rfl a w
def P9:=λa w=>enters_of (n119 L) (by kernel_rfl) rfl a w
def Na:=λa w=>enters_of (n120 L) (by kernel_rfl) rfl a w
def Rs:=λa w=>enters_of (n121 L) (by kernel_rfl) rfl a w
def Qa:=λa w=>enters_of (n129 L) (by kernel_rfl) rfl a w
def Qb:=λa w=>enters_of (n130 L) (by kernel_rfl) rfl a w
def Qc:=λa w=>enters_of (n131 L) (by kernel_rfl) rfl a w
def OT:=λa w=>enters_of (n132 L) (by kernel_rfl) rfl a w
def Qd:=λa w=>enters_of (n133 L) (by kernel_rfl) rfl a w
def Nb:=λa w=>enters_of (n134 L) (by kernel_rfl) rfl a w
def Qe:=λa w=>enters_of (n135 L) (by kernel_rfl) rfl a w
def Ru:=λa w=>enters_of (n136 L) (by kernel_rfl) rfl a w
def Qf:=λa w=>enters_of (n137 L) (by kernel_rfl) rfl a w
def Qg:=λa w=>enters_of (n138 L) (by kernel_rfl) rfl a w
def Qh:=λa w=>enters_of (n139 L) (by kernel_rfl) rfl a w
def Qi:=λa w=>enters_of (n140 L) (by kernel_rfl) rfl a w
def Qj:=λa w=>enters_of (n141 L) (by kernel_rfl) rfl a w
def Qk:=λa w=>enters_of (n142 L) (by kernel_rfl) rfl a w
def Ql:=λa w=>enters_of (n143 L) (by kernel_rfl) rfl a w
def Nc:=λa w=>enters_of (n162 L) (by kernel_rfl) rfl a w
def Qm:=λa w=>enters_of (n163 L) (by kernel_rfl) rfl a w
def Qn:=λa w=>enters_of (n165 L) (by kernel_rfl) rfl a w
def Qo:=λa w=>enters_of (n166 L) (by kernel_rfl) rfl a w
def Qp:=λa w=>enters_of (n167 L) (by kernel_rfl) rfl a w
def Nd:=λa w=>enters_of (n173 L) (by kernel_rfl) rfl a w
def Nf:=λa w=>enters_of (n174 L) (by kernel_rfl) rfl a w
def Qq:=λa w=>enters_of (n175 L) (by kernel_rfl) rfl a w
def Qr:=λa w=>enters_of (n176 L) (by kernel_rfl) rfl a w
def Ng:=λa w=>enters_of (n179 L) (by kernel_rfl) rfl a w
def Qt:=λa w=>enters_of (n180 L) (by kernel_rfl) rfl a w
def Qu:=λa w=>enters_of (n181 L) (by kernel_rfl) rfl a w
def Nh:=λa w=>enters_of (n183 L) (by kernel_rfl) rfl a w
def Qv:=λa w=>enters_of (n192 L) (by kernel_rfl) rfl a w
def Qw:=λa w=>enters_of (n193 L) (by kernel_rfl) rfl a w
def Qx:=λa w=>enters_of (n194 L) (by kernel_rfl) rfl a w
def Rv:=λa w=>enters_of (n230 L) (by kernel_rfl) rfl a w
def Il:=λa w=>enters_of (n231 L) (by kernel_rfl) rfl a w
def Rx:=λa w=>enters_of (n232 L) (by kernel_rfl) rfl a w
def Ry:=λa w=>enters_of (n233 L) (by kernel_rfl) rfl a w
def Qy:=λa w=>enters_of (n234 L) (by kernel_rfl) rfl a w
def Qz:=λa w=>enters_of (n235 L) (by kernel_rfl) rfl a w
def Rz:=λa w=>enters_of (n236 L) (by kernel_rfl) rfl a w
def QA:=λa w=>enters_of (n237 L) (by kernel_rfl) rfl a w
def RA:=λa w=>enters_of (n238 L) (by kernel_rfl) rfl a w
def RB:=λa w=>enters_of (n240 L) (by kernel_rfl) rfl a w
def QB:=λa w=>enters_of (n241 L) (by kernel_rfl) rfl a w
def QC:=λa w=>enters_of (n242 L) (by kernel_rfl) rfl a w
def QD:=λa w=>enters_of (n244 L) (by kernel_rfl) rfl a w
def QE:=λa w=>enters_of (n245 L) (by kernel_rfl) rfl a w
end
end Go.Proofs
namespace Go.Proofs
abbrev Bs:=List UInt8
def bc(c:UInt8):Bool:=decide (97<=(c.toNat:Int))&&decide ((c.toNat:Int)<=122)
def jc(c:UInt8):Bool:=decide (48<=(c.toNat:Int))&&decide ((c.toNat:Int)<=57)
def aD(n a b:Int):Bool:=decide (a<=n)&&decide (n<=b)
def aX(s:ByteArray)(a b:Int):Bool:=aD s.size a b&&s.data.toList.all bc
def jd(c:UInt8):Bool:=c==10||c==58||c==59||c==44
def bD(s:ByteArray)(a:Int):Bool:=aD s.size 1 a&& !s.data.toList.any jd
def dP(s:ByteArray):Bool:=aD s.size 1 10&&(s.data.toList.head?.any bc)&&s.data.toList.all λc=>bc c||jc c
def eY{a:Type}(chk:List a->a->Int)(seen:List a):List a->Int
 | []=>0
 |x::xs=>if chk seen x≠0 then chk seen x else eY chk (seen++[x]) xs
def aP{a:Type}(b c:Int)(chk:List a->a->Int)(l:List a):Int:=if aD l.length b c then eY chk [] l else 2
def letterF(seen:List Pr2)(p:Pr2):Int:=if !bD p.1 4 then 3 else if seen.any (λq=>decide (q.1=p.1))then 5 else if !aX p.2 1 3 then 3 else 0
def dQ(_:List Pr2)(p:Pr2):Int:=if !aX p.1 1 3|| !aX p.2 0 p.1.size then 3 else 0
def da(seen:List jw)(t:jw):Int:=if !dP t.name then 4 else if seen.any (λq=>decide (q.name=t.name))then 5 else aP 0 5 dQ t.aT
def je(seen:List ByteArray)(s:ByteArray):Int:=if !aX s 1 48 then 3 else if seen.any (λq=>decide (q=s))then 5 else 0
def fY(_:List (List ByteArray))(l:List ByteArray):Int:=aP 2 4 je l
def bH(t:Table):Int:=
 let a:=aP 0 12 letterF t.au
 if a≠0 then a else
 let b:=aP 0 3 da t.az
 if b≠0 then b else aP 0 4 fY t.bl
def codeF(seen:List Int)(n:Int):Int:=if !aD n 0 999 then 1 else if seen.getLast?.any (λq=>decide (n<=q))then 7 else 0
def eU(m:Mark):Int:=
 if !dP m.name then 4 else if !m.word.data.toList.isEmpty&& !bD m.word 16 then 3 else
 let f:=aP 0 5 codeF m.aW
 if f≠0 then f else if !aD m.day 0 99999 then 1 else 0
def jI(_:List ui)(r:ui):Int:=if !aD r.kind 0 5|| !aD r.least 1 100|| !aD r.plain 0 9|| !aD r.known 0 9 then 1 else 0
def EO(_:List Int)(n:Int):Int:=if !aD n 0 9 then 1 else 0
def pO(new:ByteArray)(seen:List Mark)(m:Mark):Int:=
 let f:=eU m
 if f≠0 then f else if decide (new=m.name)||seen.any (λq=>decide (q.name=m.name))then 5 else 0
def pd(c:Case):Int:=
 let a:=bH c.table
 if a≠0 then a else
 let b:=aP 0 6 jI c.rules
 if b≠0 then b else
 let d:=eU c.new
 if d≠0 then d else
 let e:=aP 0 8 (pO c.new.name) c.marks
 if e≠0 then e else aP c.marks.length c.marks.length EO c.kin
def bJ(b:List Pr2)(rest:Bs):Option Pr2:=b.foldl (λa p=>if p.1.data.toList.isPrefixOf rest&&decide ((a.elim 0 λq=>q.1.size)<p.1.size)then some p else a) none
def kR(a:List Pr2):Nat->Bs->Bs
 |0,_=>[]
 |_,[]=>[]
 |n+1,c::cs=>
  match bJ a (c::cs)with
  |some p=>p.2.data.toList++kR a n ((c::cs).drop p.1.size)
  |none=>(if bc c then[c]else[])++kR a n cs
def aQ(a:List Pr2)(w:Bs):Bs:=kR a w.length w
def eK(a b:Bs):Nat->Bs->Bs
 |0,s=>s
 |_,[]=>[]
 |n+1,c::cs=>if a.isPrefixOf (c::cs)then b++eK a b n ((c::cs).drop a.length)else c::eK a b n cs
def bP(p:Pr2)(s:Bs):Bs:=eK p.1.data.toList p.2.data.toList s.length s
def bt(t:Table)(k:Nat)(w:Bs):Bs:=((t.az[k]?.map (·.aT)).getD []).foldl (λs r=>bP r s) (aQ t.au w)
def nh:Nat->Bs->Bs->Nat
 |_,[],b=>b.length
 |_,_::a,[]=>a.length+1
 |0,_::_,_::_=>0
 |n+1,x::a,y::b=>if x=y then nh n a b else 1+min (nh n a b) (min (nh n a (y::b)) (nh n (x::a) b))
def aO(a b:Bs):Nat:=nh (a.length+b.length) a b
def rZ(n b):nh n [] b=b.length:=by cases n<;>rfl
def pP(n a):nh n a []=a.length:=by cases n<;>cases a<;>rfl
theorem fZ:∀(n m) (a b),a.length+b.length<=n->a.length+b.length<=m->nh n a b=nh m a b
 |n,m,[],b,_,_=>by rw[rZ,rZ]
 |n,m,x::a,[],_,_=>by rw[pP,pP]
 |0,_,x::a,y::b,h,_=>by simp at h
 |n+1,0,x::a,y::b,_,h=>by simp at h
 |n+1,m+1,x::a,y::b,c,d=>by simp only[R4]at c d;unfold nh;rw[fZ n m a b (by omega) (by omega),fZ n m a (y::b) (by simp only[R4];omega) (by simp only[R4];omega),fZ n m (x::a) b (by simp only[R4];omega) (by simp only[R4];omega)]
def OG(b):aO [] b=b.length:=rZ _ b
def Kw(a):aO a []=a.length:=pP _ a
def OH(x y)(a b:Bs):aO (x::a) (y::b)=if x=y then aO a b else 1+min (aO a b) (min (aO a (y::b)) (aO (x::a) b)):=by have e:aO (x::a) (y::b)=nh ((a.length+b.length+1)+1) (x::a) (y::b):=fZ _ _ _ _ (R2 _) (by simp only[R4];omega);rw[e];unfold nh aO;rw[fZ (a.length+b.length+1) (a.length+b.length) a b (by omega) (R2 _),fZ (a.length+b.length+1) (a.length+(y::b).length) a (y::b) (by simp only[R4];omega) (R2 _),fZ (a.length+b.length+1) ((x::a).length+b.length) (x::a) b (by simp only[R4];omega) (R2 _)]
def dG(a b:Bs):Int:=if a.isEmpty||b.isEmpty then 0 else(100*((max a.length b.length:Nat)-(aO a b:Int)))/(max a.length b.length:Nat)
def uj(a b:Bs):Int:=
 let(x,y):=if a.length>b.length then(b,a)else(a,b)
 if x.length<3|| !x.isPrefixOf y&& !x.isSuffixOf y then 0 else(100*x.length:Int)/(y.length:Int)
def ga(t:Table)(a b:Bs):Int:=if t.bl.any (λl=>l.any (λs=>s.data.toList==a)&&l.any (λs=>s.data.toList==b))||(a==b&& !a.isEmpty)then 100 else 0
def bn(l other:List Int):List Int:=l.filter λn=> !other.contains n
def aL(l:List Int)(n:Int):Nat:=(l.filter λx=>x/100==n).length
def bQ(a b:List Int):Int:=
 if a.isEmpty||b.isEmpty then 0 else
 let x:=bn a b;let y:=bn b a;let c:=((List.range 10).map λ(n:Nat)=>min (aL x n) (aL y n)).sum
 (100*(2*(a.length-x.length)+c:Nat):Int)/(a.length+b.length:Nat)
def bF(t:Table)(kind:Int)(one two:Mark):Int:=
 let a:=aQ t.au one.word.data.toList;let b:=aQ t.au two.word.data.toList
 if kind=0 then dG a b
 else if kind=1 then(List.range t.az.length).foldl (λc k=>max c (dG (bt t k one.word.data.toList) (bt t k two.word.data.toList))) 0
 else if kind=2 then ga t a b
 else if kind=3 then dG a b.reverse
 else if kind=4 then uj a b
 else bQ one.aW two.aW
structure BR where
 days:Int
 level:Int
 kin:Int
deriving DecidableEq
def lV(c:Case)(m:Mark)(kin:Int)(r:ui):BR:=
 let a:=if m.known then min r.plain r.known else r.plain
 ⟨max 0 (m.day+1-c.new.day),max 0 (r.least-bF c.table r.kind c.new m),max 0 (a-kin)⟩
def eA(c:Case)(m:Mark)(kin:Int):Nat->List ui->Option (Nat×Int)
 |_,[]=>none
 |i,r::a=>if lV c m kin r=⟨0,0,0⟩then some (i,bF c.table r.kind c.new m)else eA c m kin (i+1) a
structure Hit where
 mark:Int
 eh:Int
 level:Int
deriving DecidableEq
def gS(c:Case)(i:Nat):Option Hit:=
 match c.marks[i]?,c.kin[i]? with
 |some m,some k=>(eA c m k 0 c.rules).map λx=>⟨i,x.1,x.2⟩
 |_,_=>none
def gu(c:Case)(i:Int):Int:=(c.marks[i.toNat]?.map (·.day)).getD 0
def aR(c:Case)(a b:Hit):Bool:=
 if a.eh≠b.eh then decide (a.eh<b.eh)else if a.level≠b.level then decide (b.level<a.level)else
 if gu c a.mark≠gu c b.mark then decide (gu c a.mark<gu c b.mark)else decide (a.mark<b.mark)
def eB(c:Case)(h:Hit):List Hit->List Hit
 | []=>[h]
 |x::xs=>if aR c x h then x::eB c h xs else h::x::xs
def bT(c:Case):List Hit:=((List.range c.marks.length).filterMap (gS c)).foldl (λl h=>eB c h l) []
def dO(b):aO [] b=b.length:=OG b
def dk(a):aO a []=a.length:=Kw a
def xk(x y)(a b:Bs):aO (x::a) (y::b)=if x=y then aO a b else 1+min (aO a b) (min (aO a (y::b)) (aO (x::a) b)):=OH x y a b
theorem oX:∀(n) (a b),a.length+b.length<=n->aO a b=aO b a
 |n,[],b,_=>by rw[dO,dk]
 |n,x::a,[],_=>by rw[dO,dk]
 |0,x::a,y::b,h=>by simp at h
 |n+1,x::a,y::b,h=>by
  simp only[R4]at h;rw[xk,xk,oX n a b (by omega),oX n a (y::b) (by simp only[R4];omega),oX n (x::a) b (by simp only[R4];omega)];by_cases e:x=y
  ·subst e;simp
  ·rw[RY e,RY (Sn e)];omega
def OQ(a b):aO a b=aO b a:=oX _ a b (R2 _)
theorem xm:∀(n) (a b) (x),a.length+b.length<=n->aO a b<=aO (x::a) b+1/\aO (x::a) b<=aO a b+1
 |n,a,[],x,_=>by rw[dk,dk];simp only[R4];omega
 |0,a,y::b,x,h=>by simp only[R4]at h;omega
 |n+1,a,y::b,x,h=>by
  simp only[R4]at h;have c:=xm n b a y (by omega);have d:=xm n a b x (by omega);rw[OQ b a,OQ (y::b) a]at c;rw[xk];by_cases e:x=y
  ·rw[RZ e];omega
  ·rw[RY e];omega
def RU(a b x):aO a b<=aO (x::a) b+1:=(xm _ a b x (R2 _)).1
def tu(a b:Bs)(x):aO (x::a) (x::b)=aO a b:=by rw[xk,RZ rfl]
def JI(a b:Bs)(x y):aO (x::a) (y::b)<=aO a b+1:=by rw[xk];split<;>omega
theorem tZ:∀(a b),aO a b<=max a.length b.length
 | [],b=>by rw[dO];simp
 |x::a,[]=>by rw[dk];simp
 |x::a,y::b=>by have h:=JI a b x y;have k:=tZ a b;simp only[R4];omega
theorem zJ:∀a,aO a a=0
 | []=>by rw[dO];rfl
 |x::a=>by rw[tu];exact zJ a
theorem qp:∀(a b),aO a b=0->a=b
 | [],b,h=>by rw[dO]at h;exact(TH.1 h).symm
 |x::a,[],h=>by rw[dk]at h;simp at h
 |x::a,y::b,h=>by
  rw[xk]at h;by_cases e:x=y
  ·rw[RZ e]at h
   rw[e,qp a b h]
  ·rw[RY e]at h;omega
abbrev Ed:=Int×Int×Int
def codeOf(c:UInt8):Int:=(c.toNat:Int)
def aZ(i:Nat):Bs->Bs->List Ed
 | [],[]=>[]
 | [],y::b=>((i:Int),0,codeOf y)::aZ i [] b
 |x::a,[]=>((i:Int),1,0)::aZ (i+1) a []
 |x::a,y::b=>
  if aO (x::a) (y::b)=0 then[]
  else if aO (x::a) b+1=aO (x::a) (y::b)then((i:Int),0,codeOf y)::aZ i (x::a) b
  else if aO a (y::b)+1=aO (x::a) (y::b)then((i:Int),1,0)::aZ (i+1) a (y::b)
  else if x≠y then((i:Int),2,codeOf y)::aZ (i+1) a b
  else aZ (i+1) a b
termination_by a b=>a.length+b.length
inductive Run:Nat->Bs->List Ed->Bs->Prop
 |nil {i:Nat} {a:Bs}:Run i a [] a
 |keep {i:Nat} {a:Bs} {l:List Ed} {b:Bs} {e:Ed} (x:UInt8):(i:Int)<e.1->Run (i+1) a (e::l) b->Run i (x::a) (e::l) (x::b)
 |put {i:Nat} {a:Bs} {l:List Ed} {b:Bs} (y:UInt8):bc y=true->Run i a l b->Run i a (((i:Int),0,codeOf y)::l) (y::b)
 |drop {i:Nat} {a:Bs} {l:List Ed} {b:Bs} (x:UInt8):Run (i+1) a l b->Run i (x::a) (((i:Int),1,0)::l) b
 |swap {i:Nat} {a:Bs} {l:List Ed} {b:Bs} (x y:UInt8):bc y=true->Run (i+1) a l b->Run i (x::a) (((i:Int),2,codeOf y)::l) (y::b)
def Run.later{i a e l b}(h:Run i a (e::l) b):(i:Int)<=e.1:=by
 cases h with
 |keep x h _=>omega
 |put=>exact US _
 |drop=>exact US _
 |swap=>exact US _
def JJ(i a):aZ i a a=[]:=by
 cases a with
 |nil=>rw[aZ]
 |cons x a=>rw[aZ,RZ (zJ _)]
theorem kj:∀(n) (i) (a b),a.length+b.length<=n->b.all bc=true->Run i a (aZ i a b) b/\(aZ i a b).length=aO a b
 |n,i,[],[],_,_=>by rw[aZ];exact⟨.nil,by rw[dO];rfl⟩
 |0,i,[],y::b,h,_=>by simp at h
 |n+1,i,[],y::b,h,c=>by simp only[Um,Sf]at c;simp only[R4,Sl]at h;obtain⟨d,f⟩:=kj n i [] b (by simp only[Sl];omega) c.2;rw[aZ];exact⟨.put y c.1 d,by rw[R4,f,dO,dO];rfl⟩
 |0,i,x::a,b,h,_=>by simp at h
 |n+1,i,x::a,[],h,c=>by simp only[R4,Sl]at h;obtain⟨d,f⟩:=kj n (i+1) a [] (by simp only[Sl];omega) c;rw[aZ];exact⟨.drop x d,by rw[R4,f,dk,dk];rfl⟩
 |n+1,i,x::a,y::b,h,c=>by
  have m:=c;simp only[Um,Sf]at c;simp only[R4]at h;rw[aZ];by_cases k:aO (x::a) (y::b)=0
  ·rw[RZ k,k,qp _ _ k]
   exact⟨.nil,rfl⟩
  ·rw[RY k]
   by_cases d:aO (x::a) b+1=aO (x::a) (y::b)
   ·obtain⟨g,j⟩:=kj n i (x::a) b (by simp only[R4];omega) c.2
    rw[RZ d];exact⟨.put y c.1 g,by rw[R4,j,d]⟩
   ·rw[RY d]
    by_cases f:aO a (y::b)+1=aO (x::a) (y::b)
    ·obtain⟨g,j⟩:=kj n (i+1) a (y::b) (by simp only[R4];omega) m
     rw[RZ f];exact⟨.drop x g,by rw[R4,j,f]⟩
    ·rw[RY f]
     obtain⟨g,j⟩:=kj n (i+1) a b (by omega) c.2;by_cases o:x=y
     ·subst o
      rw[RY (λh=>h rfl),tu];rw[tu]at k;refine⟨?_,j⟩;cases p:aZ (i+1) a b with
      |nil=>rw[p]at j;exact absurd j.symm k
      |cons e l=>rw[p]at g;exact .keep x (by have:=g.later;omega) g
     ·rw[RZ o]
      refine⟨.swap x y c.1 g,?_⟩;rw[R4,j];rw[xk,RY o]at d f⊢;have k1:=RU a (y::b) x;omega
def jF(a b:Bs):List Ed:=aZ 0 a b
def yu(a b)(c:b.all bc=true):(jF a b).length=aO a b:=(kj _ 0 a b (R2 _) c).2
def own:ownKnob Tryz.prog.godebug=none:=by kernel_rfl
noncomputable def OE(os:Os):World:=(World.doorLaid Tryz.prog 50 os).layVars Tryz.prog [("unicode/utf8.first",Go.Pinned.utf8First)]
def OF(os:Os):(OE os).os=os:=World.layVars_os _ _ _
def EG(os:Os)(args:Array Value):((OE os).forCall (λ_ _=>0) ⟨#[],args,[]⟩).Shaped Tryz.prog:=World.shaped_of_ZipB (by kernel_rfl) (by kernel_rfl)
def M6(os:Os)(args:Array Value):laidMetH Tryz.prog YtaglpcmhopjebaaGreatDoor.Rows.likeWordsRow.laid ((OE os).forCall (λ_ _=>0) ⟨#[],args,[]⟩).memory:=laidMetH_of_parts3 (fuel:=8) (laidMet_of_run' 8 (by kernel_rfl) (by kernel_rfl)) (by kernel_rfl) (by kernel_rfl)
end Go.Proofs
