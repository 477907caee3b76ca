/- Each Go function of this seat computes what its model says. -/
import Derived.Test.YthibchijlpflmaaGreatDoorRows
import Derived.Test.YthibchijlpflmaaGreatDoorModels
import Derived.Test.YthibchijlpflmaaGreatDoorShelf
import Derived.Test.YthibchijlpflmaaGreatDoorTxt
open List renaming replicate→qBd, length_set→qBs
namespace Go.Proofs.YthibchijlpflmaaGreatDoor
open Go SX
open Go.Proofs.Tryz
open Go.Proofs.Tryz renaming prog→qD3
abbrev qD4 (f:FuncId)(vs:List Value)(s:List (World→Prop))(v:Value):Prop:=Pure qD3 f vs s Unit (fun _=>v) (fun _=>[]) (fun _=>[])
set_option maxHeartbeats 4000000
set_option linter.unusedSimpArgs false
variable {F t1:Nat}{p1:List (qDU)}{l1:qDV}{n1:List (qDV×Nat)}{i1 i2 i3 i4:Int}{m1 m2:qDU}
def eN56 (p:qDU×qDV×Nat):List Value:=[qDX p.2.1 p.1 p.2.2]
def iN56 (p:qDU×qDV×Nat):List (World→Prop):=[qDZ p.2.1 p.1 p.2.2]
theorem qq:EncOk eN56 1:=⟨fun _=>rfl,fun _=>rfl⟩
def rN56 (p:qDU×qDV×Nat):List RowF:=[FoR (eI .i64) 3 1 (qDX p.2.1 p.1 p.2.2) p.1]
theorem qd7:∀ p,iN56 p=(rN56 p).map RowF.cells:=fun _=>rfl
theorem qv9:∀ f∈rN56 (([]:qDU),((none,0):qDV×Nat)),f.v=.slice none 0 0∧f.n=0∧f.cs=[]:=by simp[rN56,FoR]
def eS63 (p:(Int×Int)):List Value:=[qDW p.1,qDW p.2]
theorem qd4:EncOk eS63 2:=⟨fun _=>rfl,fun _=>rfl⟩
def eS209 (p:(Int×Int)):List Value:=[qDW p.1,qDW p.2]
theorem qgs:EncOk eS209 2:=⟨fun _=>rfl,fun _=>rfl⟩
instance tf3:TyF qD3 3 false (qDW 0) 1 8:=.of
instance tf4:TyF qD3 4 false (.bool false) 1 1:=.of
instance tf5:TyF qD3 5 false (.int .u8 0) 1 1:=.of
instance tf9:TyF qD3 9 false (.string (bstr ([]:qDU))) 1 16:=.of
instance tf22:TyF qD3 22 false (.slice none 0 0) 1 24:=.of
instance tf24:TyF qD3 24 true (.agg #[.slice none 0 0]) 1 24:=.of
instance tf26:TyF qD3 26 true (.agg #[qDW 0,qDW 0,qDW 0]) 3 24:=.of
instance tf28:TyF qD3 28 true (.agg #[.slice none 0 0,qDW 0,qDW 0,qDW 0]) 4 48:=.of
instance:TyF qD3 41 false (.slice none 0 0) 1 24:=.of
instance:TyF qD3 48 true (.agg #[.pointer none,.slice none 0 0]) 2 32:=.of
instance tf56:TyF qD3 56 false (.slice none 0 0) 1 24:=.of
instance:TyF qD3 58 false (.slice none 0 0) 1 24:=.of
instance tf63:TyF qD3 63 true (.agg #[qDW 0,qDW 0]) 2 16:=.of
instance tf65:TyF qD3 65 true (.agg #[qDW 0,.slice none 0 0]) 2 32:=.of
instance tf67:TyF qD3 67 true (.agg #[qDW 0,qDW 0,qDW 0,qDW 0,qDW 0,.slice none 0 0]) 6 64:=.of
instance tf69:TyF qD3 69 true (.agg #[qDW 0,qDW 0,qDW 0,qDW 0,.slice none 0 0,qDW 0,.slice none 0 0]) 7 88:=.of
instance tf71:TyF qD3 71 true (.agg #[qDW 0,qDW 0,qDW 0,qDW 0,qDW 0,.slice none 0 0,qDW 0,qDW 0,qDW 0,qDW 0,.slice none 0 0,qDW 0,.slice none 0 0]) 13 152:=.of
instance:TyF qD3 83 false (.pointer none) 1 8:=.of
instance:TyF qD3 86 false (.nilFunc) 1 8:=.of
instance tf88:TyF qD3 88 true (.agg #[qDW 0,.nilFunc]) 2 16:=.of
instance:TyF qD3 107 false (.nilFunc) 1 8:=.of
instance tf119:TyF qD3 119 false (.int .u64 0) 1 8:=.of
instance tf156:TyF qD3 156 true (.agg #[]) 0 0:=.of
instance tf188:TyF qD3 188 true (.agg #[qDW 0,qDW 0,qDW 0]) 3 24:=.of
instance tf204:TyF qD3 204 false (.slice none 0 0) 1 24:=.of
instance tf209:TyF qD3 209 true (.agg #[qDW 0,qDW 0]) 2 16:=.of
instance:TyF qD3 247 true (.agg #[qDW 0,qDW 0,.slice none 0 0]) 3 40:=.of
instance:TyF qD3 293 false (.pointer none) 1 8:=.of
instance tf310:TyF qD3 310 true (.agg #[]) 0 0:=.of
instance:FdF qD3 24 0 0:=.of
instance ff26_0:FdF qD3 26 0 0:=.of
instance:FdF qD3 26 1 1:=.of
instance:FdF qD3 26 2 2:=.of
instance:FdF qD3 28 0 0:=.of
instance:FdF qD3 28 1 1:=.of
instance:FdF qD3 63 0 0:=.of
instance:FdF qD3 63 1 1:=.of
instance:FdF qD3 65 0 0:=.of
instance:FdF qD3 65 1 1:=.of
instance:FdF qD3 67 0 0:=.of
instance ff67_1:FdF qD3 67 1 1:=.of
instance ff67_2:FdF qD3 67 2 4:=.of
instance:FdF qD3 69 0 0:=.of
instance:FdF qD3 69 1 1:=.of
instance:FdF qD3 69 2 2:=.of
instance:FdF qD3 69 3 3:=.of
instance:FdF qD3 69 4 5:=.of
instance ff71_0:FdF qD3 71 0 0:=.of
instance ff71_1:FdF qD3 71 1 6:=.of
instance:FdF qD3 85 0 0:=.of
instance:FdF qD3 85 1 4:=.of
instance:FdF qD3 85 2 5:=.of
instance:FdF qD3 88 0 0:=.of
instance:FdF qD3 88 1 1:=.of
instance:FdF qD3 137 0 0:=.of
instance:FdF qD3 137 1 1:=.of
instance:FdF qD3 169 0 0:=.of
instance:FdF qD3 169 1 6:=.of
instance:FdF qD3 169 2 7:=.of
instance ff174_0:FdF qD3 174 0 0:=.of
instance ff174_1:FdF qD3 174 1 13:=.of
instance ff183_0:FdF qD3 183 0 0:=.of
instance ff183_1:FdF qD3 183 1 1:=.of
instance ff183_2:FdF qD3 183 2 2:=.of
instance ff183_3:FdF qD3 183 3 3:=.of
instance ff183_4:FdF qD3 183 4 4:=.of
instance ff183_5:FdF qD3 183 5 5:=.of
instance:FdF qD3 209 0 0:=.of
instance:FdF qD3 209 1 1:=.of
instance:FdF qD3 247 0 0:=.of
instance:FdF qD3 247 1 1:=.of
instance:FdF qD3 263 0 0:=.of
instance:FdF qD3 263 1 2:=.of
instance:FdF qD3 299 0 0:=.of
instance:FdF qD3 302 0 0:=.of
instance:FdF qD3 302 1 2:=.of
instance:FdF qD3 316 0 0:=.of
instance:FdF qD3 316 1 2:=.of
instance:FdF qD3 359 0 0:=.of
instance:FdF qD3 359 1 1:=.of
instance:FdF qD3 363 0 0:=.of
instance:FdF qD3 363 1 1:=.of
instance:FdF qD3 363 2 2:=.of
instance st24:StF qD3 24 [(0,1)] (.agg #[.slice none 0 0]):=.of
instance st26:StF qD3 26 [(0,1),(1,1),(2,1)] (.agg #[qDW 0,qDW 0,qDW 0]):=.of
instance st28:StF qD3 28 [(0,1),(1,3)] (.agg #[.slice none 0 0,qDW 0,qDW 0,qDW 0]):=.of
instance st63:StF qD3 63 [(0,1),(1,1)] (.agg #[qDW 0,qDW 0]):=.of
instance st65:StF qD3 65 [(0,1),(1,1)] (.agg #[qDW 0,.slice none 0 0]):=.of
instance:StF qD3 67 [(0,1),(1,3),(4,2)] (.agg #[qDW 0,qDW 0,qDW 0,qDW 0,qDW 0,.slice none 0 0]):=.of
instance:StF qD3 69 [(0,1),(1,1),(2,1),(3,2),(5,2)] (.agg #[qDW 0,qDW 0,qDW 0,qDW 0,.slice none 0 0,qDW 0,.slice none 0 0]):=.of
instance:StF qD3 71 [(0,6),(6,7)] (.agg #[qDW 0,qDW 0,qDW 0,qDW 0,qDW 0,.slice none 0 0,qDW 0,qDW 0,qDW 0,qDW 0,.slice none 0 0,qDW 0,.slice none 0 0]):=.of
instance:StF qD3 85 [(0,4),(4,1),(5,1)] (.agg #[.slice none 0 0,qDW 0,qDW 0,qDW 0,.slice none 0 0,.string (bstr ([]:qDU))]):=.of
instance:StF qD3 88 [(0,1),(1,1)] (.agg #[qDW 0,.nilFunc]):=.of
instance:StF qD3 137 [(0,1),(1,1)] (.agg #[.slice none 0 0,.slice none 0 0]):=.of
instance:StF qD3 156 [] (.agg #[]):=.of
instance:StF qD3 169 [(0,6),(6,1),(7,1)] (.agg #[qDW 0,qDW 0,qDW 0,qDW 0,qDW 0,.slice none 0 0,.slice none 0 0,.slice none 0 0]):=.of
instance:StF qD3 174 [(0,13),(13,1)] (.agg #[qDW 0,qDW 0,qDW 0,qDW 0,qDW 0,.slice none 0 0,qDW 0,qDW 0,qDW 0,qDW 0,.slice none 0 0,qDW 0,.slice none 0 0,qDW 0]):=.of
instance:StF qD3 183 [(0,1),(1,1),(2,1),(3,1),(4,1),(5,1)] (.agg #[.slice none 0 0,.slice none 0 0,.slice none 0 0,.slice none 0 0,.slice none 0 0,qDW 0]):=.of
instance:StF qD3 209 [(0,1),(1,1)] (.agg #[qDW 0,qDW 0]):=.of
instance:StF qD3 247 [(0,1),(1,2)] (.agg #[qDW 0,qDW 0,.slice none 0 0]):=.of
instance:StF qD3 263 [(0,2),(2,1)] (.agg #[qDW 0,.slice none 0 0,qDW 0]):=.of
instance st299:StF qD3 299 [(0,2)] (.agg #[qDW 0,.slice none 0 0]):=.of
instance:StF qD3 302 [(0,2),(2,1)] (.agg #[qDW 0,.slice none 0 0,qDW 0]):=.of
instance:StF qD3 310 [] (.agg #[]):=.of
instance:StF qD3 316 [(0,2),(2,1)] (.agg #[qDW 0,.slice none 0 0,.bool false]):=.of
instance:StF qD3 359 [(0,1),(1,1)] (.agg #[qDW 0,.bool false]):=.of
instance:StF qD3 363 [(0,1),(1,1),(2,1)] (.agg #[.slice none 0 0,.bool false,qDW 0]):=.of
instance se63:StE2 qD3 63 .i64 .i64:=⟨_,_,underlying63,by kernel_rfl,by kernel_rfl,by decide,by decide,rfl,rfl,underlying3,underlying3⟩
theorem mixed:qD3.follows .mixedOrders=true:=by kernel_rfl
instance:EnC qD3 10:=.of func10
instance:EnC qD3 11:=.of func11
instance:EnC qD3 12:=.of func12
instance:EnC qD3 13:=.of func13
instance:EnC qD3 14:=.of func14
instance:EnC qD3 19:=.of func19
instance:EnC qD3 20:=.of func20
instance:EnC qD3 21:=.of func21
instance:EnC qD3 22:=.of func22
instance:EnC qD3 23:=.of func23
instance:EnC qD3 24:=.of func24
instance:EnC qD3 25:=.of func25
instance:EnC qD3 26:=.of func26
instance:EnC qD3 43:=.of func43
instance:EnC qD3 44:=.of func44
instance:EnC qD3 46:=.of func46
instance:EnC qD3 58:=.of func58
instance:EnC qD3 59:=.of func59
instance:EnC qD3 60:=.of func60
instance:EnC qD3 61:=.of func61
instance:EnC qD3 62:=.of func62
instance:EnC qD3 63:=.of func63
instance:EnC qD3 64:=.of func64
instance:EnC qD3 65:=.of func65
instance:EnC qD3 66:=.of func66
instance:EnC qD3 67:=.of func67
instance:EnC qD3 68:=.of func68
instance:EnC qD3 69:=.of func69
instance:EnC qD3 70:=.of func70
instance:EnC qD3 71:=.of func71
instance:EnC qD3 82:=.of func82
instance:EnC qD3 83:=.of func83
instance:EnC qD3 84:=.of func84
instance:EnC qD3 85:=.of func85
instance:EnC qD3 86:=.of func86
instance:EnC qD3 87:=.of func87
instance:EnC qD3 88:=.of func88
instance:EnC qD3 89:=.of func89
instance:EnC qD3 90:=.of func90
instance:EnC qD3 91:=.of func91
instance:EnC qD3 92:=.of func92
instance:EnC qD3 93:=.of func93
instance:EnC qD3 94:=.of func94
instance:EnC qD3 95:=.of func95
instance:EnC qD3 96:=.of func96
instance:EnC qD3 97:=.of func97
instance:EnC qD3 98:=.of func98
instance:EnC qD3 99:=.of func99
instance:EnC qD3 100:=.of func100
instance:EnC qD3 113:=.of func113
instance:EnC qD3 114:=.of func114
instance:EnC qD3 115:=.of func115
instance:EnC qD3 116:=.of func116
instance:EnC qD3 117:=.of func117
instance:EnC qD3 118:=.of func118
instance:EnC qD3 119:=.of func119
instance:EnC qD3 120:=.of func120
instance:EnC qD3 121:=.of func121
instance:EnC qD3 122:=.of func122
instance:EnC qD3 123:=.of func123
instance:EnC qD3 124:=.of func124
instance:EnC qD3 125:=.of func125
instance:EnC qD3 126:=.of func126
instance:EnC qD3 127:=.of func127
instance:EnC qD3 128:=.of func128
instance:EnC qD3 129:=.of func129
instance:EnC qD3 130:=.of func130
instance:EnC qD3 131:=.of func131
instance:EnC qD3 132:=.of func132
instance:EnC qD3 133:=.of func133
instance:EnC qD3 134:=.of func134
instance:EnC qD3 135:=.of func135
instance:EnC qD3 136:=.of func136
instance:EnC qD3 148:=.of func148
instance:EnC qD3 158:=.of func158
instance:EnC qD3 159:=.of func159
instance:EnC qD3 160:=.of func160
instance:EnC qD3 161:=.of func161
instance:EnC qD3 162:=.of func162
instance:EnC qD3 163:=.of func163
instance:EnC qD3 164:=.of func164
instance:EnC qD3 165:=.of func165
instance:EnC qD3 166:=.of func166
instance:EnC qD3 167:=.of func167
instance:EnC qD3 168:=.of func168
instance:EnC qD3 169:=.of func169
instance:EnC qD3 170:=.of func170
instance:EnC qD3 171:=.of func171
instance:EnC qD3 173:=.of func173
instance:EnC qD3 174:=.of func174
instance:EnC qD3 175:=.of func175
instance:EnC qD3 176:=.of func176
instance:EnC qD3 179:=.of func179
instance:EnC qD3 180:=.of func180
instance:EnC qD3 190:=.of func190
instance:EnC qD3 191:=.of func191
instance:EnC qD3 192:=.of func192
instance:EnC qD3 193:=.of func193
instance:EnC qD3 194:=.of func194
instance:EnC qD3 195:=.of func195
instance:EnC qD3 196:=.of func196
instance:EnC qD3 197:=.of func197
instance:EnC qD3 198:=.of func198
instance:EnC qD3 199:=.of func199
instance:EnC qD3 200:=.of func200
instance:EnC qD3 201:=.of func201
instance:EnC qD3 204:=.of func204
instance:EnC qD3 205:=.of func205
instance:EnC qD3 212:=.of func212
instance:EnC qD3 216:=.of func216
instance:EnC qD3 230:=.of func230
instance:EnC qD3 231:=.of func231
instance:EnC qD3 232:=.of func232
instance:EnC qD3 233:=.of func233
instance:EnC qD3 234:=.of func234
instance:EnC qD3 235:=.of func235
instance:EnC qD3 236:=.of func236
instance:EnC qD3 237:=.of func237
instance:EnC qD3 238:=.of func238
instance:EnC qD3 239:=.of func239
instance:EnC qD3 240:=.of func240
instance:EnC qD3 241:=.of func241
instance:EnC qD3 242:=.of func242
instance:EnC qD3 243:=.of func243
instance:EnC qD3 244:=.of func244
instance:EnC qD3 245:=.of func245
instance:EnC qD3 246:=.of func246
instance:EnC qD3 247:=.of func247
instance:EnC qD3 248:=.of func248
instance:EnC qD3 258:=.of func258
instance:EnC qD3 259:=.of func259
instance:EnC qD3 260:=.of func260
instance:EnC qD3 261:=.of func261
instance:EnC qD3 262:=.of func262
instance:EnC qD3 263:=.of func263
instance:EnC qD3 264:=.of func264
instance:EnC qD3 265:=.of func265
instance:EnC qD3 266:=.of func266
instance:EnC qD3 267:=.of func267
instance:EnC qD3 268:=.of func268
instance:EnC qD3 269:=.of func269
instance:EnC qD3 270:=.of func270
instance:EnC qD3 271:=.of func271
instance:EnC qD3 272:=.of func272
instance:EnC qD3 273:=.of func273
instance:EnC qD3 274:=.of func274
instance:EnC qD3 275:=.of func275
instance:EnC qD3 276:=.of func276
instance:EnC qD3 277:=.of func277
instance:EnC qD3 278:=.of func278
instance:EnC qD3 279:=.of func279
instance:EnC qD3 280:=.of func280
instance:EnC qD3 281:=.of func281
instance:EnC qD3 284:=.of func284
instance:EnC qD3 285:=.of func285
instance:EnC qD3 286:=.of func286
instance:EnC qD3 287:=.of func287
instance:EnC qD3 288:=.of func288
instance:EnC qD3 289:=.of func289
instance:EnC qD3 290:=.of func290
instance:EnC qD3 291:=.of func291
instance:EnC qD3 292:=.of func292
instance:EnC qD3 293:=.of func293
instance:EnC qD3 294:=.of func294
instance:EnC qD3 295:=.of func295
instance:EnC qD3 296:=.of func296
instance:EnC qD3 297:=.of func297
instance:EnC qD3 298:=.of func298
instance:EnC qD3 299:=.of func299
instance:EnC qD3 300:=.of func300
instance:EnC qD3 301:=.of func301
instance:EnC qD3 302:=.of func302
instance:EnC qD3 303:=.of func303
instance:EnC qD3 304:=.of func304
instance:EnC qD3 305:=.of func305
instance:EnC qD3 306:=.of func306
instance:EnC qD3 307:=.of func307
theorem qxY (v:Value)(w:World):(Instr.makeInterface 310 v).run qD3 w=.ok (.iface 310 v) w:=by simp[Instr.makeInterface,run_underlying underlying310]
abbrev lostCh:List PanicEntry:=[{ v:=.iface 310 (.agg #[]),recovered:=false }]
theorem qxT (p q:Addr):qmw qD3 243 #[.pointer (some p),.pointer (some q)]:=by
  intro w
  refine callsD_of_wpS func243 rfl fun c₀ cs hu=>?_
  apply wpS_seq
  apply wpS_region
  simp[wpOpsS,go_sem,recoverD,hu,ntmps243,Exit.thenS]
  refine wpS_of_wp ?_
  go_wp2
  cases c₀
  simp_all [bodyPostS,results,Tryz.results243]
theorem qts (w:World):(Instr.typeAssert (.iface 310 (.agg #[])) 20 310 true).run qD3 w=.ok (.tuple #[.agg #[],.bool true]) w:=by
  simp[Instr.typeAssert,run_underlying underlying310]
theorem eqn243 (x y:Operand)(w:World):(do eqGuard .eql 20 x y (.iface 310 (.agg #[])) .nilIface;binOp .eql 20 (.iface 310 (.agg #[])) .nilIface:Sem Value).run qD3 w=.ok (.bool false) w:=by
  simp[go_sem]
set_option maxRecDepth 100000 in
theorem qjk (g1 g2:Nat)(v1 v2:Value):qmx qD3 243 #[qDY g1,qDY g2] 310 (.agg #[]) [⟨g1,56,[v1]⟩,⟨g2,4,[v2]⟩] [⟨g1,56,[.slice none 0 0]⟩,⟨g2,4,[.bool false]⟩]:=by
  intro w hp
  refine callsD_of_wpS func243 rfl fun c₀ cs hu=>?_
  apply wpS_seq
  apply wpS_region
  simp[wpOpsS,go_sem,recoverD,hu,ntmps243,Exit.thenS]
  refine wpS_of_wp (qhx.1 ?_)
  refine (show SXC qD3 none 11 [] (muts [⟨g1,56,[v1]⟩,⟨g2,4,[v2]⟩] []) w _ _ [(0,.pointer (some ⟨g1,0,none⟩)),(1,.pointer (some ⟨g2,0,none⟩)),(5,.iface 310 (.agg #[]))] [⟨g1,56,[v1]⟩,⟨g2,4,[v2]⟩] [] [] (some ()) () from ?_) rfl _ _ ⟨rfl,by simp,fun i v hv=>?_⟩ hp
  · refine qgE ?_
    refine kC ?_
    refine qT ?_
    refine qqf rfl rfl rfl (eqn243 _ _) rfl ?_
    refine zH ?_
    refine zC ?_
    refine yh (b:=false) rfl (fun h=>by cases h) (fun _=>?_)
    refine kC ?_
    refine qT ?_
    refine qou rfl rfl qts rfl ?_
    refine qas rfl rfl rfl rfl ?_
    refine qas rfl rfl rfl rfl ?_
    refine zH ?_
    refine zC ?_
    refine yh (b:=true) rfl (fun _=>?_) (fun h=>by cases h)
    refine kC ?_
    refine qT ?_
    refine qka rfl tf310 rfl (fun g=>?_)
    refine kL (i:=0) rfl rfl rfl tf310 rfl rfl rfl rfl rfl ?_
    refine zH ?_
    refine zC ?_
    refine qT ?_
    refine kL (i:=1) rfl rfl rfl tf56 rfl rfl rfl rfl rfl ?_
    refine kL (i:=2) rfl rfl rfl tf4 rfl rfl rfl rfl rfl ?_
    refine zH ?_
    refine qem ?_
    intro _ a w' hf hp'
    exact ⟨hf.defers,_,rfl,_,results_none rfl _ _ _,rfl,rfl,hp'.pick (.cons 1 rfl (.cons 1 rfl .nil)) .nil (by simp)⟩
  · simp only[qag] at hv
    split at hv
    · rename_i h;subst h;simpa using hv
    · split at hv
      · rename_i h;subst h;simpa using hv
      · split at hv
        · rename_i h;subst h;simpa using hv
        · cases hv
theorem qrl (cb:Array Value):qnH qD3 160 118 2 (fun l=>.agg l.toArray) cb :=
  qt1 fun _ _ enc hk h1 cf hO blk cap d w hc hH hb hsz hT=>Go.Proofs.AnyQ.slices_SortFunc_total Tryz.sortf160 2 tf63.run_isAgg tf63.run_size enc hk h1 cf hO 118 cb blk 0 cap d w EnC.e hc hH hb hsz hT
instance:UnF qD3 2 (.int .i64):=⟨underlying2⟩
instance:UnF qD3 3 (.int .i64):=⟨underlying3⟩
instance:UnF qD3 4 .bool:=⟨underlying4⟩
instance:UnF qD3 5 (.int .u8):=⟨underlying5⟩
instance:UnF qD3 9 .string:=⟨underlying9⟩
instance:UnF qD3 22 (.slice 56):=⟨underlying22⟩
instance:UnF qD3 39 (.slice 9):=⟨underlying39⟩
instance:UnF qD3 41 (.slice 5):=⟨underlying41⟩
instance:UnF qD3 56 (.slice 3):=⟨underlying56⟩
instance:UnF qD3 58 (.slice 63):=⟨underlying58⟩
instance:UnF qD3 119 (.int .u64):=⟨underlying119⟩
instance:UnF qD3 196 (.int .u64):=⟨underlying196⟩
instance:UnF qD3 199 (.int .u32):=⟨underlying199⟩
instance:UnF qD3 204 (.slice 209):=⟨underlying204⟩
instance:UnF qD3 211 (.slice 119):=⟨underlying211⟩
theorem stm (c:Nat)(q:List Nat){p:List Nat}{A:Prop}(h:Stp (q++p) A):Stp (c::p) A:=⟨h.go⟩
set_option maxRecDepth 100000 in
theorem au0 (p:List Nat){A B:Prop}(t:B→Stp p A:=by
  intro h
  repeat (first
    | exact stp0 h
    | (refine stc 39 ?_;refine stk (fun h=>h) ?_;try dsimp only)
    | (refine stc 0 ?_;refine stk (fun h=>zH h) ?_)
    | (refine stc 1 ?_;refine stk (fun h=>kC h) ?_)
    | (refine stc 2 ?_;refine stk (fun h=>zC h) ?_)
    | (refine stc 3 ?_;refine qjs rfl rfl rfl (zv rfl) ?_)
    | (refine stc 4 ?_;refine stk (fun h=>qY rfl rfl rfl h) ?_)
    | (refine stc 5 ?_;refine stk (fun h=>qT h) ?_)
    | (refine stc 6 ?_;refine stk (fun h=>kK rfl rfl rfl h) ?_)
    | (refine stc 7 ?_;refine qyo rfl (by kernel_rfl) rfl ?_)
    | (refine stc 8 ?_;refine stk (fun h=>zI [1] [0,1] h) ?_)
    | (refine stc 9 ?_;refine stk (fun h=>qw1 rfl rfl rfl h) ?_)
    | (refine stc 10 ?_;refine stk (fun h=>qwM rfl UnF.u rfl rfl rfl h) ?_)
    | (refine stc 11 ?_;refine stk (fun h=>qot h) ?_)
    | (refine stc 12 ?_;refine stk (fun h=>qV rfl rfl inferInstance rfl h) ?_)
    | (refine stc 13 ?_;refine stk (fun h=>qj9 rfl (And.left h) (And.right h)) ?_)
    | (refine stc 14 ?_;refine stk (fun h=>qgC (by kernel_rfl) h) ?_)
    | (refine stc 15 ?_;refine stk (fun h=>qke h) ?_)
    | (refine stc 16 ?_;refine stk (fun h=>qhK h) ?_)
    | (refine stc 17 ?_;refine stk (fun h=>kL (i:=0) rfl rfl rfl inferInstance rfl rfl rfl rfl rfl h) ?_)
    | (refine stc 18 ?_;refine stk (fun h=>qup h) ?_)
    | (refine stc 19 ?_;refine stk (fun h=>qka rfl inferInstance rfl h) ?_)
    | (refine stc 20 ?_;refine stk (fun h=>qgE h) ?_)
    | (refine stc 21 ?_;refine qjs rfl rfl rfl (za rfl inferInstance) ?_)
    | (refine stc 22 ?_;refine stk (fun h=>qkf h) ?_)
    | (refine stc 23 ?_;refine qyn rfl rfl rfl ?_)
    | (refine stc 24 ?_;first
      | (refine sta 0 ?_;refine stk (fun h=>zW (i:=0) rfl rfl inferInstance rfl rfl (fun _=>rfl) rfl rfl h) ?_)
      | (refine sta 1 ?_;refine stk (fun h=>qas rfl rfl rfl rfl h) ?_)
      | (refine sta 2 ?_;refine stk (fun h=>qkJ rfl rfl rfl rfl h) ?_)
      | (refine sta 3 ?_;refine stk (fun h=>qd qto h) ?_)
      | (refine sta 4 ?_;refine stk (fun h=>qyv rfl rfl rfl h) ?_)
      | (refine sta 5 ?_;exact stz (qum))
      | (refine sta 6 ?_;refine stk (fun h=>qoy rfl rfl rfl rfl h) ?_)
      | (refine sta 7 ?_;refine stk (fun h=>qem h) ?_)
      | (refine sta 8 ?_;exact stz (qx ()))
      | (refine sta 9 ?_;refine stk (fun h=>qw3 h) ?_)
      | (refine sta 10 ?_;refine stk (fun h=>qox rfl UnF.u rfl rfl h) ?_)
      | (refine sta 11 ?_;refine stk (fun h=>qd qoT h) ?_)
      | (refine sta 12 ?_;refine stk (fun h=>qqj (b:=true) rfl rfl rfl rfl h) ?_)
      | (refine sta 13 ?_;refine stk (fun h=>qqj (b:=false) rfl rfl rfl rfl h) ?_)
      | (refine sta 14 ?_;refine stk (fun h=>qwE h) ?_)
      | (refine sta 15 ?_;refine stk (fun h=>kg rfl rfl rfl h) ?_))
    | (refine stc 25 ?_;first
      | (refine sta 0 ?_;refine stk (fun h=>zW (i:=0) rfl rfl inferInstance rfl rfl (by simp) rfl rfl h) ?_)
      | (refine sta 1 ?_;refine stk (fun h=>qqa h) ?_)
      | (refine sta 2 ?_;refine stk (fun h=>qqk h) ?_)
      | (refine sta 3 ?_;refine stk (fun h=>zI [0] [0,1] h) ?_)
      | (refine sta 4 ?_;refine qjr rfl rfl rfl (qy (i:=0) rfl inferInstance rfl rfl (fun _=>rfl) rfl) ?_)
      | (refine sta 5 ?_;refine stk (fun h=>qwD h) ?_)
      | (refine sta 6 ?_;refine stk (fun h=>qs8 rfl rfl rfl rfl h) ?_)
      | (refine sta 7 ?_;refine stk (fun h=>qhX (j:=0) rfl rfl inferInstance rfl rfl (fun _=>rfl) rfl rfl h) ?_)
      | (refine sta 8 ?_;refine stk (fun h=>qyG rfl rfl rfl rfl h) ?_)
      | (refine sta 9 ?_;refine stk (fun h=>zI [0] [0] h) ?_)
      | (refine sta 10 ?_;refine stk (fun h=>kL (i:=1) rfl rfl rfl inferInstance rfl rfl rfl rfl rfl h) ?_)
      | (refine sta 11 ?_;refine stk (fun h=>qs7 rfl rfl rfl rfl h) ?_)
      | (refine sta 12 ?_;refine stk (fun h=>qyH rfl rfl rfl h) ?_)
      | (refine sta 13 ?_;refine stk (fun h=>qfC Int (eI .i64) 3 1 h) ?_)
      | (refine sta 14 ?_;refine stk (fun h=>qtb rfl rfl rfl rfl h) ?_)
      | (refine sta 15 ?_;refine stk (fun h=>qwP rfl UnF.u UnF.u rfl rfl h) ?_))
    | (refine stc 26 ?_;first
      | (refine sta 0 ?_;refine stk (fun h=>zW (i:=1) rfl rfl inferInstance rfl rfl (by simp) rfl rfl h) ?_)
      | (refine sta 1 ?_;refine stk (fun h=>zW (i:=1) rfl rfl inferInstance rfl rfl (fun _=>rfl) rfl rfl h) ?_)
      | (refine sta 2 ?_;refine stk (fun h=>qun h) ?_)
      | (refine sta 3 ?_;exact stz (qK ()))
      | (refine sta 4 ?_;refine stk (fun h=>zW (i:=2) rfl rfl inferInstance rfl rfl (fun _=>rfl) rfl rfl h) ?_)
      | (refine sta 5 ?_;refine stk (fun h=>qfC Int (eI .u8) 5 1 h) ?_)
      | (refine sta 6 ?_;refine stk (fun h=>qwY (qD .i64) rfl UnF.u inferInstance rfl rfl rfl rfl rfl rfl rfl h) ?_)
      | (refine sta 7 ?_;refine stk (fun h=>vT (j:=0) (qD .i64) (by decide) rfl UnF.u inferInstance rfl rfl rfl rfl h) ?_)
      | (refine sta 8 ?_;refine stk (fun h=>qAn (And.left h) (And.right h)) ?_)
      | (refine sta 9 ?_;refine stk (fun h=>qcC (j:=0) rfl UnF.u inferInstance rfl rfl rfl rfl h) ?_)
      | (refine sta 10 ?_;refine stk (fun h=>qyy rfl rfl rfl rfl h) ?_)
      | (refine sta 11 ?_;refine stk (fun h=>zW (i:=2) rfl rfl inferInstance rfl rfl (by simp) rfl rfl h) ?_)
      | (refine sta 12 ?_;exact stz (qa ((),())))
      | (refine sta 13 ?_;refine qjr rfl rfl rfl (qy (i:=1) rfl inferInstance rfl rfl (fun _=>rfl) rfl) ?_)
      | (refine sta 14 ?_;refine stk (fun h=>qwF h) ?_)
      | (refine sta 15 ?_;refine stk (fun h=>qfT Int (eI .i64) 3 1 h) ?_))
    | (refine stc 27 ?_;first
      | (refine sta 0 ?_;refine stk (fun h=>qyx h) ?_)
      | (refine sta 1 ?_;refine stk (fun h=>qwW h) ?_)
      | (refine sta 2 ?_;refine stk (fun h=>zI [1] [0] h) ?_)
      | (refine sta 3 ?_;refine stk (fun h=>zI [2] [0] h) ?_)
      | (refine sta 4 ?_;refine stk (fun h=>zI [1,1] [0] h) ?_)
      | (refine sta 5 ?_;refine stk (fun h=>qw5 (qDU) (qDV×Nat) eN56 rN56 56 1 h) ?_)
      | (refine sta 6 ?_;refine stk (fun h=>kL (i:=6) rfl rfl rfl inferInstance rfl rfl rfl rfl rfl h) ?_)
      | (refine sta 7 ?_;refine stk (fun h=>qiI (j:=0) qq (by decide) rfl UnF.u inferInstance rfl rfl rfl rfl h) ?_)
      | (refine sta 8 ?_;refine stk (fun h=>qjw rfl rfl rfl rfl rfl h) ?_)
      | (refine sta 9 ?_;refine stk (fun h=>qd qgm h) ?_)
      | (refine sta 10 ?_;refine stk (fun h=>qoz rfl rfl rfl h) ?_)
      | (refine sta 11 ?_;refine stk (fun h=>qrt 0 rfl h) ?_)
      | (refine sta 12 ?_;refine stk (fun h=>qp9 0 qF rfl h) ?_)
      | (refine sta 13 ?_;refine stk (fun h=>qt qiS h) ?_)
      | (refine sta 14 ?_;refine stk (fun h=>kL (i:=2) rfl rfl rfl inferInstance rfl rfl rfl rfl rfl h) ?_)
      | (refine sta 15 ?_;refine stk (fun h=>qc (.cons 0 rfl (.cons 1 rfl .nil)) (qh 0 rfl (qgv 1 rfl qf)) h) ?_))
    | (refine stc 28 ?_;first
      | (refine sta 0 ?_;refine stk (fun h=>qyD rfl rfl rfl rfl h) ?_)
      | (refine sta 1 ?_;refine stk (fun h=>qdK Int (eI .i64) 3 1 h) ?_)
      | (refine sta 2 ?_;refine stk (fun h=>qmu rfl rfl rfl h) ?_)
      | (refine sta 3 ?_;refine stk (fun h=>zI [1] [0,1,2] h) ?_)
      | (refine sta 4 ?_;exact stz (qkd (.cons 0 rfl .nil)))
      | (refine sta 5 ?_;refine stk (fun h=>qJ [] [1,1] [0,1,2] 8 h) ?_)
      | (refine sta 6 ?_;refine stk (fun h=>zI [1,1] [0,1,2] h) ?_)
      | (refine sta 7 ?_;refine stk (fun h=>qd ql9 h) ?_)
      | (refine sta 8 ?_;refine qjs rfl rfl rfl (qAy UnF.u rfl) ?_)
      | (refine sta 9 ?_;refine stk (fun h=>qgF (j:=1) (qD .i64) (by decide) rfl h) ?_)
      | (refine sta 10 ?_;refine stk (fun h=>qyz rfl rfl rfl rfl h) ?_)
      | (refine sta 11 ?_;refine stk (fun h=>qyt h) ?_)
      | (refine sta 12 ?_;refine stk (fun h=>qwG h) ?_)
      | (refine sta 13 ?_;refine stk (fun h=>qw2 h) ?_)
      | (refine sta 14 ?_;refine stk (fun h=>qyu rfl rfl rfl rfl h) ?_)
      | (refine sta 15 ?_;refine stk (fun h=>qyB rfl rfl rfl rfl h) ?_))
    | (refine stc 29 ?_;first
      | (refine sta 0 ?_;refine stk (fun h=>qcC (j:=1) rfl UnF.u inferInstance rfl rfl rfl rfl h) ?_)
      | (refine sta 1 ?_;refine qjr rfl rfl rfl (qy (i:=2) rfl inferInstance rfl rfl (fun _=>rfl) rfl) ?_)
      | (refine sta 2 ?_;refine stk (fun h=>zW (i:=3) rfl rfl inferInstance rfl rfl (fun _=>rfl) rfl rfl h) ?_)
      | (refine sta 3 ?_;refine stk (fun h=>qd qqu h) ?_)
      | (refine sta 4 ?_;refine stk (fun h=>qt qh7 h) ?_)
      | (refine sta 5 ?_;refine stk (fun h=>zB [-1] h) ?_)
      | (refine sta 6 ?_;refine stk (fun h=>vT (j:=1) (qD .i64) (by decide) rfl UnF.u inferInstance rfl rfl rfl rfl h) ?_)
      | (refine sta 7 ?_;refine stk (fun h=>qqb (j:=1) rfl h) ?_)
      | (refine sta 8 ?_;refine stk (fun h=>qhX (j:=0) rfl rfl inferInstance rfl rfl (by simp) rfl rfl h) ?_)
      | (refine sta 9 ?_;refine stk (fun h=>qd qtn h) ?_)
      | (refine sta 10 ?_;refine stk (fun h=>zI [0,0,0,0,0] [0] h) ?_)
      | (refine sta 11 ?_;refine stk (fun h=>qfT Int (eI .u8) 5 1 h) ?_)
      | (refine sta 12 ?_;refine stk (fun h=>kZ 24 rfl (by kernel_rfl) (.cons 0 rfl (.cons 1 rfl .nil)) h) ?_)
      | (refine sta 13 ?_;refine stk (fun h=>qAm (And.left h) (And.right h)) ?_)
      | (refine sta 14 ?_;refine stk (fun h=>qd qnB h) ?_)
      | (refine sta 15 ?_;refine stk (fun h=>qyC (rin:=rN56) (y:=([]:qDU)) (q:=((none,0):qDV×Nat)) qq (by decide) qv9 rfl UnF.u inferInstance rfl rfl rfl rfl rfl rfl h) ?_))
    | (refine stc 30 ?_;first
      | (refine sta 0 ?_;refine stk (fun h=>qqb (j:=0) rfl h) ?_)
      | (refine sta 1 ?_;exact stz (qwL))
      | (refine sta 2 ?_;exact stz (kp (none,0,([]:List (qDV×Nat))) 0))
      | (refine sta 3 ?_;refine stk (fun h=>qgF (j:=2) (qD .i64) (by decide) rfl h) ?_)
      | (refine sta 4 ?_;refine stk (fun h=>qbJ (j:=0) rfl h) ?_)
      | (refine sta 5 ?_;refine stk (fun h=>qua (And.left h) (And.right h)) ?_)
      | (refine sta 6 ?_;refine stk (fun h=>kL (i:=3) rfl rfl rfl inferInstance rfl rfl rfl rfl rfl h) ?_)
      | (refine sta 7 ?_;refine stk (fun h=>qd qnq h) ?_)
      | (refine sta 8 ?_;refine stk (fun h=>zI [1,1] [0,1,2,3] h) ?_)
      | (refine sta 9 ?_;refine stk (fun h=>zI [0,0] [0] h) ?_)
      | (refine sta 10 ?_;refine stk (fun h=>qt qo3 h) ?_)
      | (refine sta 11 ?_;refine stk (fun h=>qhZ (i:=3) rfl h) ?_)
      | (refine sta 12 ?_;refine stk (fun h=>qd qks h) ?_)
      | (refine sta 13 ?_;refine stk (fun h=>zI [0,0] [] h) ?_)
      | (refine sta 14 ?_;refine stk (fun h=>qgF (j:=0) (qD .i64) (by decide) rfl h) ?_)
      | (refine sta 15 ?_;refine stk (fun h=>qt qig h) ?_))
    | (refine stc 31 ?_;first
      | (refine sta 0 ?_;refine stk (fun h=>qoB rfl rfl rfl rfl rfl h) ?_)
      | (refine sta 1 ?_;refine stk (fun h=>qt qoU h) ?_)
      | (refine sta 2 ?_;refine stk (fun h=>qdK Int (eI .u8) 5 1 h) ?_)
      | (refine sta 3 ?_;refine stk (fun h=>qd qnu h) ?_)
      | (refine sta 4 ?_;refine stk (fun h=>qd qoV h) ?_)
      | (refine sta 5 ?_;refine stk (fun h=>qd qfW h) ?_)
      | (refine sta 6 ?_;refine stk (fun h=>zI [0,0,0] [0,1,2,3] h) ?_)
      | (refine sta 7 ?_;refine stk (fun h=>zw 0 (qD .i64) rfl UnF.u inferInstance rfl rfl rfl rfl rfl (.inr ⟨0,rfl⟩) rfl rfl h) ?_)
      | (refine sta 8 ?_;refine stk (fun h=>qd qgK h) ?_)
      | (refine sta 9 ?_;refine stk (fun h=>qwU (j:=0) rfl UnF.u inferInstance rfl rfl rfl rfl h) ?_)
      | (refine sta 10 ?_;refine stk (fun h=>qt qhd h) ?_)
      | (refine sta 11 ?_;refine stk (fun h=>vT (j:=0) qd4 (by decide) rfl UnF.u inferInstance rfl rfl rfl rfl h) ?_)
      | (refine sta 12 ?_;refine stk (fun h=>qc .nil (qh 0 rfl (qh 1 rfl (qh 2 rfl (qgv 0 rfl qf)))) h) ?_)
      | (refine sta 13 ?_;refine stk (fun h=>qyI rfl rfl rfl rfl rfl h) ?_)
      | (refine sta 14 ?_;refine stk (fun h=>zW (i:=3) rfl rfl inferInstance rfl rfl (by simp) rfl rfl h) ?_)
      | (refine sta 15 ?_;refine stk (fun h=>qd qiX h) ?_))
    | (refine stc 32 ?_;first
      | (refine sta 0 ?_;refine stk (fun h=>qc .nil (qgv 0 rfl qf) h) ?_)
      | (refine sta 1 ?_;refine stk (fun h=>qd qeb h) ?_)
      | (refine sta 2 ?_;refine qjr rfl rfl rfl (qy (i:=3) rfl inferInstance rfl rfl (fun _=>rfl) rfl) ?_)
      | (refine sta 3 ?_;refine stk (fun h=>vT (j:=0) qgs (by decide) rfl UnF.u inferInstance rfl rfl rfl rfl h) ?_)
      | (refine sta 4 ?_;refine stk (fun h=>qwH h) ?_)
      | (refine sta 5 ?_;refine stk (fun h=>qt qqA h) ?_)
      | (refine sta 6 ?_;exact stz (kp (none,0) 1))
      | (refine sta 7 ?_;refine stk (fun h=>qd qni h) ?_)
      | (refine sta 8 ?_;refine stk (fun h=>qiH 0 rfl h) ?_)
      | (refine sta 9 ?_;refine stk (fun h=>kw 0 _ rfl rfl rfl (zv rfl) rfl h) ?_)
      | (refine sta 10 ?_;refine stk (fun h=>kw 1 _ rfl rfl rfl (zv rfl) rfl h) ?_)
      | (refine sta 11 ?_;refine stk (fun h=>kw 2 _ rfl rfl rfl (za rfl inferInstance) rfl h) ?_)
      | (refine sta 12 ?_;refine stk (fun h=>kw 4 _ rfl rfl rfl (zv rfl) rfl h) ?_)
      | (refine sta 13 ?_;refine stk (fun h=>zI [0,0,0,0] [0] h) ?_)
      | (refine sta 14 ?_;refine stk (fun h=>zI [0,0] [0,1] h) ?_)
      | (refine sta 15 ?_;refine stk (fun h=>qd qnk h) ?_))
    | (refine stc 33 ?_;first
      | (refine sta 0 ?_;refine stk (fun h=>qwT rfl UnF.u rfl rfl rfl h) ?_)
      | (refine sta 1 ?_;refine stk (fun h=>qug rfl UnF.u rfl rfl rfl h) ?_)
      | (refine sta 2 ?_;refine stk (fun h=>yh rfl (And.left h) (And.right h)) ?_)
      | (refine sta 3 ?_;refine stk (fun h=>qJ [] [0,0] [0,1,2] 8 h) ?_)
      | (refine sta 4 ?_;refine stk (fun h=>qd qgJ h) ?_)
      | (refine sta 5 ?_;refine stk (fun h=>qt7 0 rfl h) ?_)
      | (refine sta 6 ?_;refine stk (fun h=>qt qfV h) ?_)
      | (refine sta 7 ?_;refine stk (fun h=>qt qoX h) ?_)
      | (refine sta 8 ?_;refine stk (fun h=>qt qh3 h) ?_)
      | (refine sta 9 ?_;refine stk (fun h=>qwZ rfl UnF.u rfl rfl rfl h) ?_)
      | (refine sta 10 ?_;refine stk (fun h=>qhZ (i:=2) rfl h) ?_)
      | (refine sta 11 ?_;refine stk (fun h=>qfT (Int×Int) eS63 63 2 h) ?_)
      | (refine sta 12 ?_;refine stk (fun h=>qd qiN h) ?_)
      | (refine sta 13 ?_;exact stz (kp (none,0,([]:List (qDV×Nat))) 1))
      | (refine sta 14 ?_;refine stk (fun h=>qH [] h) ?_)
      | (refine sta 15 ?_;refine stk (fun h=>qt qdu h) ?_))
    | (refine stc 34 ?_;first
      | (refine sta 0 ?_;refine stk (fun h=>qt kS h) ?_)
      | (refine sta 1 ?_;refine stk (fun h=>qd ql8 h) ?_)
      | (refine sta 2 ?_;refine stk (fun h=>zI [0] [0,1,2,3] h) ?_)
      | (refine sta 3 ?_;refine qjs rfl rfl rfl (qyX UnF.u UnF.u rfl) ?_)
      | (refine sta 4 ?_;refine stk (fun h=>qt qqv h) ?_)
      | (refine sta 5 ?_;refine stk (fun h=>qt qiM h) ?_)
      | (refine sta 6 ?_;refine stk (fun h=>zW (i:=4) rfl rfl inferInstance rfl rfl (fun _=>rfl) rfl rfl h) ?_)
      | (refine sta 7 ?_;refine stk (fun h=>qd qpa h) ?_)
      | (refine sta 8 ?_;refine stk (fun h=>qd qo2 h) ?_)
      | (refine sta 9 ?_;refine stk (fun h=>kZ 18 rfl (by kernel_rfl) (.cons 0 rfl .nil) h) ?_)
      | (refine sta 10 ?_;refine stk (fun h=>qd qjJ h) ?_)
      | (refine sta 11 ?_;refine stk (fun h=>qt qiZ h) ?_)
      | (refine sta 12 ?_;refine stk (fun h=>qd qir h) ?_)
      | (refine sta 13 ?_;refine stk (fun h=>qJ [] [0] [0,1] 21 h) ?_)
      | (refine sta 14 ?_;refine stk (fun h=>qhZ (i:=4) rfl h) ?_)
      | (refine sta 15 ?_;refine stk (fun h=>qhY rfl rfl rfl rfl rfl h) ?_))
    | (refine stc 35 ?_;first
      | (refine sta 0 ?_;refine stk (fun h=>qyJ rfl rfl rfl rfl h) ?_)
      | (refine sta 1 ?_;refine stk (fun h=>qd qmk h) ?_)
      | (refine sta 2 ?_;refine stk (fun h=>qd qkQ h) ?_)
      | (refine sta 3 ?_;exact stz (kp (none,0) 0))
      | (refine sta 4 ?_;refine stk (fun h=>qlY 2 rfl h) ?_)
      | (refine sta 5 ?_;refine stk (fun h=>qd qqB h) ?_)
      | (refine sta 6 ?_;refine stk (fun h=>qt qiv h) ?_)
      | (refine sta 7 ?_;refine stk (fun h=>qd qo6 h) ?_)
      | (refine sta 8 ?_;refine stk (fun h=>zI [0,0] [0,1,2,3] h) ?_)
      | (refine sta 9 ?_;refine stk (fun h=>qJ [] [0,0,0] [0] 15 h) ?_)
      | (refine sta 10 ?_;refine stk (fun h=>qt qmb h) ?_)
      | (refine sta 11 ?_;refine stk (fun h=>qJ [] [0] [0,1,2] 17 h) ?_)
      | (refine sta 12 ?_;refine stk (fun h=>zI [0] [0,1,2] h) ?_)
      | (refine sta 13 ?_;refine stk (fun h=>qd qnp h) ?_)
      | (refine sta 14 ?_;exact stz (kp ((none,0),none,0) 1))
      | (refine sta 15 ?_;refine stk (fun h=>qt qil h) ?_))
    | (refine stc 36 ?_;first
      | (refine sta 0 ?_;refine stk (fun h=>qd qno h) ?_)
      | (refine sta 1 ?_;refine stk (fun h=>qd qqz h) ?_)
      | (refine sta 2 ?_;refine stk (fun h=>qd qo5 h) ?_)
      | (refine sta 3 ?_;refine stk (fun h=>qd qnn h) ?_)
      | (refine sta 4 ?_;exact stz (kp ((none,0),(none,0),none,0) 1))
      | (refine sta 5 ?_;refine stk (fun h=>qgF (j:=0) (qD .u8) (by decide) rfl h) ?_)
      | (refine sta 6 ?_;refine stk (fun h=>qd qnE h) ?_)
      | (refine sta 7 ?_;refine stk (fun h=>qAo rfl rfl rfl rfl h) ?_)
      | (refine sta 8 ?_;refine stk (fun h=>qd qiT h) ?_)
      | (refine sta 9 ?_;refine stk (fun h=>qd qky h) ?_)
      | (refine sta 10 ?_;refine stk (fun h=>qyw rfl UnF.u rfl rfl h) ?_)
      | (refine sta 11 ?_;refine stk (fun h=>qqe (i:=0) (qD .i64) rfl UnF.u inferInstance rfl rfl rfl rfl h) ?_)
      | (refine sta 12 ?_;refine stk (fun h=>qd qmg h) ?_)
      | (refine sta 13 ?_;refine stk (fun h=>qd qgk h) ?_)
      | (refine sta 14 ?_;exact stz (qkd (.cons 1 rfl .nil)))
      | (refine sta 15 ?_;refine stk (fun h=>kw 5 _ rfl rfl rfl (zv rfl) rfl h) ?_))
    | (refine stc 37 ?_;first
      | (refine sta 0 ?_;refine stk (fun h=>kw 6 _ rfl rfl rfl (zv rfl) rfl h) ?_)
      | (refine sta 1 ?_;refine stk (fun h=>kw 7 _ rfl rfl rfl (zv rfl) rfl h) ?_)
      | (refine sta 2 ?_;refine stk (fun h=>kw 8 _ rfl rfl rfl (za rfl inferInstance) rfl h) ?_)
      | (refine sta 3 ?_;refine stk (fun h=>kw 11 _ rfl rfl rfl (zv rfl) rfl h) ?_)
      | (refine sta 4 ?_;refine stk (fun h=>kw 12 _ rfl rfl rfl (zv rfl) rfl h) ?_)
      | (refine sta 5 ?_;refine stk (fun h=>kw 18 _ rfl rfl rfl (zv rfl) rfl h) ?_)
      | (refine sta 6 ?_;refine stk (fun h=>zI [0,0,0,0,0] [0,1] h) ?_)
      | (refine sta 7 ?_;refine stk (fun h=>qd qkg h) ?_)
      | (refine sta 8 ?_;refine stk (fun h=>qt qnx h) ?_)
      | (refine sta 9 ?_;refine stk (fun h=>qd qtp h) ?_)
      | (refine sta 10 ?_;refine stk (fun h=>qd qo0 h) ?_)
      | (refine sta 11 ?_;refine stk (fun h=>qd qmh h) ?_)
      | (refine sta 12 ?_;refine stk (fun h=>qt qiR h) ?_)
      | (refine sta 13 ?_;refine stk (fun h=>qd qnG h) ?_)
      | (refine sta 14 ?_;refine stk (fun h=>qd qqG h) ?_)
      | (refine sta 15 ?_;refine stk (fun h=>vT (j:=2) (qD .i64) (by decide) rfl UnF.u inferInstance rfl rfl rfl rfl h) ?_))
    | (refine stc 38 ?_;first
      | (refine sta 0 ?_;refine stk (fun h=>qiI (j:=2) qq (by decide) rfl UnF.u inferInstance rfl rfl rfl rfl h) ?_)
      | (refine sta 1 ?_;refine stk (fun h=>qt qii h) ?_)
      | (refine sta 2 ?_;refine stk (fun h=>qJ [] [0,0,0] [0,1,2,3] 10 h) ?_)
      | (refine sta 3 ?_;refine stk (fun h=>zI [1,0,0] [0,1,2,3] h) ?_)
      | (refine sta 4 ?_;refine stk (fun h=>qJ [] [0,0,0] [0,1,2,3] 12 h) ?_)
      | (refine sta 5 ?_;refine stk (fun h=>kZ 13 rfl (by kernel_rfl) (.cons 1 rfl (.cons 1 rfl .nil)) h) ?_)
      | (refine sta 6 ?_;refine stk (fun h=>qJ [] [0,0,0,0,0] [0] 5 h) ?_)
      | (refine sta 7 ?_;refine stk (fun h=>qd qqx h) ?_)
      | (refine sta 8 ?_;refine stk (fun h=>qJ [] [1,1,1,1] [0,1,2] 8 h) ?_)
      | (refine sta 9 ?_;refine stk (fun h=>zI [1,1,1,1] [0,1,2] h) ?_)
      | (refine sta 10 ?_;refine stk (fun h=>qt qih h) ?_)
      | (refine sta 11 ?_;exact stz (qgH (none,0,([]:List (qDV×Nat))) 0))
      | (refine sta 12 ?_;refine stk (fun h=>qd qoY h) ?_))
    | apply stm 45 [3,13,3,14]
    | apply stm 46 [3,19,3,20]
    | apply stm 47 [3,15,3,16]
    | apply stm 48 [1,5]
    | apply stm 49 [7,12,24,3]
    | apply stm 50 [0,2]
    | apply stm 51 [6,0,2]
    | apply stm 52 [6,0,2,11]
    | apply stm 53 [14,15]
    | apply stm 54 [1,5,4]
    | apply stm 55 [0,8]
    | apply stm 56 [7,18,17]
    | apply stm 57 [12,24,0]
    | apply stm 58 [7,11,10]
    | apply stm 59 [0,24,5]
    | apply stm 60 [24,9,18]
    | apply stm 61 [24,14,1,5]
    | apply stm 62 [25,1,22]
    | apply stm 63 [3,13,3,14,3,15,3,16]
    | apply stm 64 [24,1,24,1]
    | apply stm 65 [3,19,3,20,14,15]
    | apply stm 66 [7,18,17,0,8]
    | apply stm 67 [7,18,17,0,8,3,19,3,20,14,15]
    | apply stm 68 [22,25,2]
    | apply stm 69 [16,2]
    | apply stm 70 [24,13,0,24,5]
    | apply stm 71 [24,12,0,24,5]
    | apply stm 72 [3,13,3,14,3,15,3,16,7,18,17,0,8,3,19,3,20,14,15]
    | apply stm 73 [0,8,3,13,3,14,3,15,3,16,7,18,17,0,8,3,19,3,20,14,15]
    | apply stm 74 [0,8,7,12,24,3]
    | apply stm 75 [6,0,2,11,18]
    | apply stm 76 [6,0,2,1,5,4]
    | apply stm 77 [0,25,3]
    | apply stm 78 [0,8,7,11,10]
    | apply stm 79 [9,9]
    | apply stm 80 [25,5,1,5]
    | apply stm 81 [3,11,14,15]
    | apply stm 82 [24,7,2]
    | apply stm 83 [24,2,4]
    | apply stm 84 [7,8,10]
    | apply stm 85 [24,15,12]
    | apply stm 86 [24,10,4]
    | apply stm 87 [3,6,3,7]
    | apply stm 88 [9,9,9,9]
    | apply stm 89 [3,0,3,1]
    | apply stm 90 [6,0,2,11,24,8]
    | apply stm 91 [25,1,22,22,25,2]
    | apply stm 92 [0,2,20]
    | apply stm 93 [0,25,9]
    | apply stm 94 [24,15,12,24,0]
    | apply stm 95 [0,8,7,8,10]
    | apply stm 96 [6,0,2,11,18,24,8]
    | apply stm 97 [6,0,2,1,5]
    | apply stm 98 [7,10,24,11]
    | apply stm 99 [3,6,3,7,3,8]
    | apply stm 100 [24,14,1,5,24,4]
    | apply stm 101 [7,10,17]
    | apply stm 102 [7,7,10]
    | apply stm 103 [0,8,7,7,10]
    | apply stm 104 [25,5,1,5,24,4]
    | apply stm 105 [6,0,2,11,18,25,13]
    | apply stm 106 [1,5,25,0]
    | apply stm 107 [27,11,27,12]
    | apply stm 108 [26,15,27,13]
    | apply stm 109 [25,6,24,13,0,24,5]
    | apply stm 110 [24,10,4,0,2,20]
    | apply stm 111 [24,13,0]
    | apply stm 112 [24,12,0]
    | apply stm 113 [1,5,24,4]
    | apply stm 114 [1,5,4,24,10,4,0,2,20]
    | apply stm 115 [3,0,3,1,3,2]
    | apply stm 116 [26,14,1,5,24,4]
    | apply stm 117 [6,0,2,11,26,3]
    | apply stm 118 [7,10,27,6]
    | apply stm 119 [24,9,18,24,8]
    | apply stm 120 [39,1,5,4]
    | apply stm 121 [25,10,0]
    | apply stm 122 [20,1,5,4]
    | apply stm 123 [12,26,1]
    | apply stm 124 [4,24,2]
    | apply stm 125 [24,9,18,18]
    | apply stm 126 [7,10,24,4]
    | apply stm 127 [3,11,3,12]
    | apply stm 128 [20,1,5]
    | apply stm 129 [6,0,2,1]
    | apply stm 130 [25,1,22,22,25,2,26,12]
    | apply stm 131 [16,2,1,5]
    | apply stm 132 [17,0,2]
    | apply stm 133 [12,26,4]
    | apply stm 134 [12,25,0]
    | apply stm 135 [16,2,1]
    | apply stm 136 [16,2,1,20,1,5]
    | apply stm 137 [16,2,1,20,1,5,4]
    | apply stm 138 [26,5,26,5]
    | apply stm 139 [21,0,25,4,1]
    | apply stm 140 [39,1,5]
    | apply stm 141 [3,9,3,10]
    | apply stm 142 [26,2,28,4]
    | apply stm 143 [24,6,4]
    | apply stm 144 [24,2,4,0]
    | apply stm 145 [5,24,2,4,0]
    | apply stm 146 [24,7,2,5,24,2,4,0]
    | apply stm 147 [7,10,17,0])):Stv p B A:=⟨fun h=>(t h).go⟩
theorem au (p:List Nat){A B:Prop}(h:B)(t:Stv p B A:=by exact au0 _):A:=t.go h
theorem av (p:List Nat){A B C:Prop}(h:B)(k:C)(t:Stv p (B∧C) A:=by exact au0 _):A:=t.go ⟨h,k⟩
theorem aw (p:List Nat){A B C B' C':Prop}(h:B)(k:C)(t:Stv p ((B'→B)∧(C'→C)) A:=by exact au0 _):A:=t.go ⟨fun _=>h,fun _=>k⟩
theorem az (p:List Nat){A:Prop}(t:Stv p True A:=by exact au0 _):A:=t.go trivial
instance mx:Mx qD3:=⟨mixed⟩
theorem ql9 (hm:kM F p1=some i1) :
    qD4 20 [.agg #[qDX l1 p1 t1]] [SlN eN56 iN56 1 (qDX l1 p1 t1) p1 n1] (qDW i1):=by
 refine pureA func20 ntmps20 hm fun _=>?_
 refine au [104] ?_
 intro g4
 refine aw [6,0,2,1,5,12,24,0,24,10,6,0,2,1,1,5,4,25,6,0,2,13] ?_ ?_
 exact az [48,96]
 refine au [131,51] ?_
 refine qP (fun ((x0,_):Int×Unit)=>([(4,qDW x0)],[],[],[],qcY F x0)) ?_ ?_
 refine au [48,57,110] ?_
 refine qp [3,16,17] [] [] [0] (fun (((x2,x3),_):(Int×Int)×Unit)=>([(4,qDW x2),(18,qDW x3)],[],[],[])) ((0:Int),(0:Int)) () ?_
 intro k0
 rintro ⟨⟨x2,x3⟩,_⟩
 refine aw [39,1,5,24,6,0,2,1,13] ?_ ?_
 refine au [69] ?_
 refine qj [3,16,17,18] [] [] [0] (fun ((x4,_):Int×Unit)=>([(4,qDW x4)],[],[],[],qcZ F (vh F p1 k0) x3 x4)) ?_ ?_
 refine au [128,27,7] ?_
 intro x5 e0 g0 b0 o0
 refine au [25,7,97,51] ?_
 refine qj [3,4,6,16,17,18] [] [] [1,2] (fun ((_,_):Unit×Unit)=>([],[],[],[],qbg F (vh F p1 k0) x2 x3 x5)) ?_ ?_
 refine au [114] ?_
 refine qp [3,4,6,16,17,18,22,23] [] [] [1,2] (fun (((x6,x7),_):(Int×Int)×Unit)=>([(7,qDW x6),(24,qDW x7)],[],[],[])) ((-1:Int),(0:Int)) () ?_
 intro k1
 rintro ⟨⟨x6,x7⟩,_⟩
 refine aw [39,1,5,24,6,0,2,1,13] ?_ ?_
 refine au [136,26,7] ?_
 intro x8 e1 b1 o1
 refine au [25,7,129,122,143] ?_
 refine q6 4 31 35 [3,4,6,7,16,17,18,22,23,24,9] (decide ((p1.length:Int)≤x8)) ?_ ?_ ?_
 exact az [79,9,71]
 exact az [4,4,26,10,70]
 refine aw [6,0,2,13] ?_ ?_
 exact az [48,52,60,125,60,125,119]
 refine aw [1,5,4,4,28,10,6,0,2,13] ?_ ?_
 exact az [48,52,60,125,60,125,119]
 refine au [16,82,5,4,6,0,146] ?_
 exact qk ((x8,iadd .i64 x7 1),())
 exact az [130]
 rintro ⟨_,_⟩
 refine au [39,5,4,4,24,10,24,2,6,0,24,7] ?_
 exact qa (iadd .i64 x2 (x5.length:Int),())
 rintro ⟨x4,_⟩
 refine au [39,145] ?_
 exact qk ((x4,iadd .i64 x3 1),())
 refine au [91] ?_
 exact qa (x2,())
 rintro ⟨x0,_⟩
 refine aw [39,1,1,5,4,25,6,0,2,13] ?_ ?_
 exact az [48,96]
 exact az [131,90]
theorem qnB (hm:vv F i1 i2 i3=some i4) :
    qD4 21 [.agg #[qDW i1,qDW i2,qDW i3]] [] (qDW i4):=by
 refine pureA func21 ntmps21 hm fun _=>?_
 refine au [104] ?_
 intro g4
 refine au [129,48,57,143] ?_
 refine q6 4 6 10 [1] (decide (7<i1)) ?_ ?_ ?_
 exact az [79,9,71]
 exact az [57,109]
 refine au [4] ?_
 refine q6 4 11 15 [1] (decide (i2<0)) ?_ ?_ ?_
 exact az [79,9,71]
 exact az [57,24,6,70]
 refine au [4] ?_
 refine q6 4 16 20 [1] ((i2:Int) == 1) ?_ ?_ ?_
 exact az [79,9,71]
 exact az [57,25,11,70]
 refine au [4] ?_
 refine q6 4 21 25 [1] (decide (300<i2)) ?_ ?_ ?_
 exact az [79,9,71]
 exact az [57,109]
 refine au [4] ?_
 refine q6 4 26 30 [1] (decide (i3<1)) ?_ ?_ ?_
 exact az [79,9,71]
 exact az [57,24,6,70]
 refine au [4] ?_
 refine q6 4 31 35 [] (decide (16<i3)) ?_ ?_ ?_
 exact az [79,9,71]
 exact az [57,109]
 refine aw [0,2,13] ?_ ?_
 exact az [48,96]
 exact az [131,90]
theorem qnk (hm:vu F p1 i1 i2 i3=some i4) :
    qD4 13 [.agg #[qDX l1 p1 t1,qDW i1,qDW i2,qDW i3]] [SlN eN56 iN56 1 (qDX l1 p1 t1) p1 n1] (qDW i4):=by
 refine pureA func13 ntmps13 hm fun _=>?_
 refine au [104] ?_
 intro g7
 refine au [129,48,134,28,7] ?_
 intro x10 e10 _
 refine aw [6,0,2,1,5,4,25,8,0,2,13] ?_ ?_
 exact az [54,96]
 refine au [131,134,29,14] ?_
 intro x11 e11 _
 exact az [90]
theorem qgJ (hm:kP F m1=some m2) :
    Pure qD3 46 [qDX l1 m1 t1] [qDZ l1 m1 t1] (qDV×Nat) (fun g=>qDX g.1 m2 g.2) (fun g=>[qD0 g.1 m2 g.2]) (fun _=>[]):=by
 refine pureA func46 ntmps46 hm fun _=>?_
 refine av [80,129,54,33,1,50,33,2] ?_ ?_
 intro h11
 refine qqc 0 (qD .i64) (by decide) rfl h11 (fun h12=>?_)
 subst h12
 refine qaM (m':=some ([]:qDU)) rfl ?_
 refine au [48,105] ?_
 exact qx (none,0)
 intro _
 refine au [131] ?_
 refine zB (k:=.i64) [] ?_
 intro a6 c7
 refine au [4,31,7] ?_
 intro x8 e8 a9 c10
 refine au [52] ?_
 exact qx (a9,c10)
theorem qqx {r:(List (qDU)×Int×Int×Int)}(hm:qfh F p1 i1 i2 i3=some r) :
    Pure qD3 23 [.agg #[qDX l1 p1 t1,qDW i1,qDW i2,qDW i3]] [SlN eN56 iN56 1 (qDX l1 p1 t1) p1 n1] (qDV×Nat×List (qDV×Nat)) (fun g=>.agg #[qDX g.1 r.1 g.2.1,qDW r.2.1,qDW r.2.2.1,qDW r.2.2.2]) (fun g=>[RoN eN56 rN56 56 1 (qDX g.1 r.1 g.2.1) r.1 g.2.2 []]) (fun _=>[]):=by
 refine pureA func23 ntmps23 hm fun _=>?_
 refine au [104] ?_
 intro g7
 refine au [19] ?_
 intro g8
 refine au [50] ?_
 refine qj [1,2] [0,1] [] [0] (fun ((x20,g17,a18,c19):List (qDU)×Nat×qDV×Nat×List (qDV×Nat))=>([(3,qDY g17)],[⟨g17,28,[qDX a18 x20 c19.1,qDW i1,qDW i2,qDW i3]⟩],[RoN eN56 rN56 56 1 (qDX a18 x20 c19.1) x20 c19.2 []],[],qf1 F p1 i1 i2 i3 x20)) ?_ ?_
 refine qJ [] [0,0] [0] 11 ?_
 refine au [21,0,21,1,26,13,2,28,8,3,21,6] ?_
 refine qA 7 (.agg #[qDW i1,qDW i2,qDW i3]) rfl rfl rfl (qy (i:=1) rfl tf26 rfl rfl (by simp) rfl) (qg 4 9 rfl rfl (by kernel_rfl) rfl rfl ?_ ?_)
 refine au [29,15] ?_
 intro x0 e0 a0 c0
 refine au [0,30,9] ?_
 refine qb 5 (.agg #[qDX a0 x0 c0]) rfl rfl rfl (qdr (cells:=[qDX a0 x0 c0]) st24 rfl (by kernel_rfl)) (qb 8 (.agg #[qDX a0 x0 c0,qDW i1,qDW i2,qDW i3]) rfl rfl rfl (qdr (cells:=[qDX a0 x0 c0,qDW i1,qDW i2,qDW i3]) st28 rfl (by kernel_rfl)) ?_)
 refine au [7,9,19] ?_
 intro g0
 refine au [0,27,4,147,27,4,53] ?_
 exact qa (x0,g0,a0,c0,(qBd x0.length ((none,0):qDV×Nat)))
 refine au [19] ?_
 intro g1
 refine au [0,27,4,7,4,29,15] ?_
 intro x2 e1 a1 c1
 refine au [0,27,4] ?_
 refine qb 5 (.agg #[qDX a1 x2 c1]) rfl rfl rfl (qdr (cells:=[qDX a1 x2 c1]) st24 rfl (by kernel_rfl)) (qb 8 (.agg #[qDX a1 x2 c1,qDW i1,qDW i2,qDW i3]) rfl rfl rfl (qdr (cells:=[qDX a1 x2 c1,qDW i1,qDW i2,qDW i3]) st28 rfl (by kernel_rfl)) ?_)
 refine au [147,27,4,53] ?_
 exact qa (x2,g1,a1,c1,(qBd x2.length ((none,0):qDV×Nat)))
 rintro ⟨x20,g17,a18,c19⟩
 try dsimp only
 refine qj [2,3] [0] [] [] (fun ((x3,g2):List (qDU)×List (qDV×Nat))=>([],[⟨g17,28,[qDX a18 x3 c19.1,qDW i1,qDW i2,qDW i3]⟩],[RoN eN56 rN56 56 1 (qDX a18 x3 c19.1) x3 g2 []],[],qh8 F i1 i2 i3 x3)) ?_ ?_
 refine au [48,12,123,110] ?_
 refine qp [2,3,17,18] [0] [] [0] (fun (((x7,x8),g3):(Int×List (qDU))×List (qDV×Nat))=>([(19,qDW x7)],[⟨g17,28,[qDX a18 x8 c19.1,qDW i1,qDW i2,qDW i3]⟩],[RoN eN56 rN56 56 1 (qDX a18 x8 c19.1) x8 g3 []],[])) ((0:Int),x20) c19.2 ?_
 intro k0
 rintro ⟨⟨x7,x8⟩,g3⟩
 refine aw [39,1,5,24,6,0,2,1,13] ?_ ?_
 refine au [137,27,7] ?_
 intro x9 e2 g4 b0 o0
 refine au [25,7,6,51,30,0] ?_
 intro x10 e3 g5 h0 g6 h1
 replace h1:a18=some ⟨g6,0,none⟩:=h1
 have h2:=zM (k:=x8.length) (c:=c19.1) h1
 refine qe3 (i:=0) rfl h0 (List.not_mem_nil) ?_
 refine au [33,3,21,0,21,1,26,13,2,3,3,3,4,7,5,33,4] ?_
 rintro x11 e4 ⟨a3,c2⟩
 refine au [0] ?_
 refine zI [0,0] [0,1,2] ?_
 refine jB 6 h1 e3 ?_
 refine au [7,7] ?_
 refine jN (j:=2) (kh:=0) (y':=x11) (q':=(a3,c2)) qq rfl rfl rfl tf56 rfl (zM h1) rfl (qu e3).2.1 rfl (.cons 0 rfl .nil) (fun x12 e5 h3 g9=>?_)
 have h4:x12.length=x8.length:=by rw[← e5,qBs]
 refine zl 26 h3 ?_
 refine qW (i:=1) (cs':=[qDX a18 x12 c19.1,qDW i1,qDW i2,qDW i3]) rfl (by simp only[qDX,h3] <;> rfl) ?_
 refine au [0] ?_
 refine qc (.cons 0 rfl (.cons 0 (by simp only[qDX,h4] <;> rfl) .nil)) (qh 0 rfl (qh 1 rfl (qh 2 rfl qf))) ?_
 refine au [53,146] ?_
 exact qk ((iadd .i64 x7 1,x12),g9)
 refine au [91] ?_
 exact qa (x8,g3)
 rintro ⟨x3,g2⟩
 refine au [140,26,0,132,11] ?_
 exact qdL (a18,c19.1,g2) 0
theorem qrV {r:(Int×Int)}(hm:qi5 F i1 i2=some r) :
    qD4 203 [.int .u32 i1,.int .u32 i2] [] (.tuple #[.int .u32 r.1,.int .u32 r.2]):=by
 refine pureA func203 ntmps203 hm fun _=>?_
 refine au [61,6,76,25,15,4,25,15,28,0,6,27,1] ?_
 intro x3 e3
 refine jS 6 e3 ?_
 exact az [50,54,27,8,25,15,4,25,15,6,90]
theorem qiY {r:(Int×Int)}(hm:qfL F i1 i2=some r) :
    qD4 204 [.int .u64 i1,.int .u64 i2] [] (.tuple #[.int .u64 r.1,.int .u64 r.2]):=by
 refine pureA func204 ntmps204 hm fun _=>?_
 refine au [61,6,76,28,14,76,27,8,76,28,14,76,27,8,76,4,28,0,6,27,1] ?_
 intro x3 e3
 refine jS 10 e3 ?_
 refine au [50,54,4,28,0,4,27,8,24,2,6,27,1] ?_
 intro x4 e4
 refine jS 11 e4 ?_
 refine au [50,54,28,14,76,27,8,76,4,4,28,0,24,2,6,27,1] ?_
 intro x5 e5
 refine jS 12 e5 ?_
 refine au [50,54,4,28,0,4,83,27,8,24,2,6,27,1] ?_
 intro x6 e6
 refine jS 4 e6 ?_
 exact az [50,54,4,28,0,90]
theorem qkv {r:(Int×Int)}(hm:qcm F i1 i2=some r) :
    qD4 175 [.int .u64 i1,.int .u64 i2] [] (.tuple #[.int .u64 r.1,.int .u64 r.2]):=by
 refine pureA func175 ntmps175 hm fun _=>?_
 refine au [61,6,129] ?_
 refine yh (b:=false) rfl (fun h=>by cases h) (fun _=>?_)
 refine au [69,54,4] ?_
 refine qd qiY ?_
 intro x3 e3 _
 exact az [4,64,6,76,4,6,90]
theorem qgm (hm:yf F m1 i1=some m2) :
    Pure qD3 131 [qDX l1 m1 t1,qDW i1] [qDZ l1 m1 t1] (qDV×Nat) (fun g=>qDX g.1 m2 g.2) (fun g=>[qD0 g.1 m2 g.2]) (fun _=>[]):=by
 refine pureA func131 ntmps131 hm fun _=>?_
 refine aw [24,14,1,5,6,0,2,1,1,5,4,24,6,0,2,13] ?_ ?_
 exact az [30,1]
 refine au [69,54,24,10,25,15,4,25,15] ?_
 refine qd qkv ?_
 intro x6 e6 _
 refine au [4,64,6,129,54,25,6,4] ?_
 refine q6 3 23 26 [0,6] (decide (9223372036854775807<x6.2)) ?_ ?_ ?_
 exact az [79,71]
 exact az [4,109]
 refine aw [0,2,13] ?_ ?_
 exact az [30,1]
 refine au [69,54,25,15,26,6] ?_
 intro x10 e10 a11 c12
 refine au [76,4] ?_
 refine qud (j:=0) (i:=0) (qD .i64) rfl UnF.u inferInstance rfl rfl rfl rfl rfl ?_
 intro x13 e13 h14
 have h15:x13.length=x10.length:=by rw[← e13];exact qek (Nat.zero_le _)
 refine zl 7 h14 ?_
 refine zl 30 h14 ?_
 refine zl 31 h14 ?_
 refine au [51] ?_
 refine qP (fun ((x64,_):qDU×Unit)=>([(7,qDX a11 x64 c12)],[],[qD0 a11 x64 c12],[],vL F x64)) ?_ ?_
 refine au [20] ?_
 refine qt8 (fun (((x80,x81),_):(qDU×Int)×Unit)=>([(7,qDX a11 x80 c12),(8,qDW x81)],[],[qD0 a11 x80 c12],[])) (fun k (s:(qDU×Int)×Unit)=>kJ F k s.1) ((x13,((min m1.length x10.length:Nat):Int)),()) F ?_
 intro k97
 rintro ⟨⟨x80,x81⟩,_⟩
 try dsimp only
 refine qaM (m':=yx F (kJ F k97) x80 x81) rfl ?_
 refine aw [1,1,5,4,4,24,10,24,6,0,2,13] ?_ ?_
 refine au [69,20,33,5] ?_
 intro x99 e99 a0 c0 h0 h1
 refine au [33,5] ?_
 intro x0 e0 a1 c1 h2 h3
 refine qJ [] [] [] 10 ?_
 refine au [115] ?_
 refine qb 3 (qDX a0 x99 c0) rfl rfl rfl (qcD underlying56 tf3 rfl rfl rfl e99 h1 h0) ?_
 refine au [3,4,3,5] ?_
 refine qb 6 (qDX a1 x0 c1) rfl rfl rfl (qcD underlying56 tf3 rfl rfl rfl e0 h3 h2) ?_
 refine au [7,7] ?_
 refine que (j:=0) (qD .i64) rfl underlying56 tf3 e99 h0 e0 h2 rfl rfl rfl rfl (fun x2 e1 h4=>?_)
 have h5:x2.length=x80.length:=by rw[← e1];exact qek (by have:=qdo e99;omega)
 refine zl 7 h4 ?_
 refine zl 35 h4 ?_
 refine zl 39 h4 ?_
 refine zl 42 h4 ?_
 refine au [0] ?_
 refine zI [] [] ?_
 refine au [3,8,3,9,53,24,7] ?_
 exact qk ((x2,iadd .i64 x81 ((min x0.length x99.length:Nat):Int)),())
 refine au [91] ?_
 exact qa (x80,())
 rintro ⟨x64,_⟩
 refine au [120,52] ?_
 exact qx (a11,c12)
theorem qgK (hm:kR F m1 i1=some i2) :
    qD4 85 [qDX l1 m1 t1,qDW i1] [qDZ l1 m1 t1] (qDW i2):=by
 refine pureA func85 ntmps85 hm fun _=>?_
 refine au [61,51] ?_
 refine qP (fun ((_,_):Unit×Unit)=>([],[],[],[],qbY F)) ?_ ?_
 refine au [114] ?_
 refine qp [0,1,7] [] [] [0] (fun ((x47,_):Int×Unit)=>([(8,qDW x47)],[],[],[])) (0:Int) () ?_
 intro k58
 rintro ⟨x47,_⟩
 refine aw [39,1,5,24,6,0,2,1,13] ?_ ?_
 refine au [137,76,4,4,26,7] ?_
 intro x64 e64 b65 o66
 refine aw [25,7,25,11,0,2,13] ?_ ?_
 exact az [54,52,125,119]
 refine au [16,146] ?_
 exact qk (iadd .i64 x47 1,())
 exact az [130]
 rintro ⟨_,_⟩
 exact az [140,90]
theorem qhj (F:Nat)(x1:qDU)(a2:qDV)(c3:Nat)(r:Int)(hm:jv F x1=some r) :
    qD4 205 [qDX a2 x1 c3] [qDZ a2 x1 c3] (qDW r):=by
 refine pureA func205 ntmps205 hm fun _=>?_
 refine aw [25,5,1,5,6,0,2,1,1,5,4,24,10,24,6,0,2,13] ?_ ?_
 exact az [30,1]
 refine au [69,54,26,7] ?_
 intro x5 e5 b6 o7
 refine au [25,7,51] ?_
 refine qP (fun ((x35,_):Int×Unit)=>([(3,qDW x35)],[],[],[],qcF F x35)) ?_ ?_
 refine au [48,51,20] ?_
 refine qp [0] [] [] [1] (fun (((x44,x45),_):(Int×Int)×Unit)=>([(3,qDW x44),(4,qDW x45)],[],[],[])) (x5,(1:Int)) () ?_
 intro k54
 rintro ⟨⟨x44,x45⟩,_⟩
 refine aw [39,1,1,5,4,4,24,10,24,6,0,2,13] ?_ ?_
 refine au [135,20,5,4,4,4,26,7] ?_
 intro x59 e59 b60 o61
 refine au [25,7,28,15,6,0,82,5,124,6,0] ?_
 exact qk ((imin x44 x59,iadd .i64 x45 1),())
 refine au [91] ?_
 exact qa (x44,())
 rintro ⟨x35,_⟩
 exact az [120,90]
theorem qhe (F g1:Nat)(x2:List (qDU))(a3:qDV)(c4:(Nat×List (qDV×Nat)))(x5:qDU)(a6:qDV)(c7:Nat)(x8:qDU)(a9:qDV)(c10:Nat)(x11:qDU)(a12:qDV)(c13:Nat)(x14:qDU)(a15:qDV)(c16:Nat)(x17 x18:Int)(r:(qDU×qDU×qDU×qDU×Int))(hm:vY F x2 x5 x8 x11 x14 x17 x18=some r) :
    PureM qD3 176 [qDY g1,qDW x18] [⟨g1,183,[qDX a3 x2 c4.1,qDX a6 x5 c7,qDX a9 x8 c10,qDX a12 x11 c13,qDX a15 x14 c16,qDW x17]⟩] [qD0 a6 x5 c7,qD0 a9 x8 c10,qD0 a12 x11 c13,qD0 a15 x14 c16] [SlN eN56 iN56 1 (qDX a3 x2 c4.1) x2 c4.2] ((qDV×Nat)×(qDV×Nat)×(qDV×Nat)×qDV×Nat) (fun _=>.tuple #[]) (fun g=>[⟨g1,183,[qDX a3 x2 c4.1,qDX g.1.1 r.1 g.1.2,qDX g.2.1.1 r.2.1 g.2.1.2,qDX g.2.2.1.1 r.2.2.1 g.2.2.1.2,qDX g.2.2.2.1 r.2.2.2.1 g.2.2.2.2,qDW r.2.2.2.2]⟩]) (fun g=>[qD0 g.1.1 r.1 g.1.2,qD0 g.2.1.1 r.2.1 g.2.1.2,qD0 g.2.2.1.1 r.2.2.1 g.2.2.1.2,qD0 g.2.2.2.1 r.2.2.2.1 g.2.2.2.2]):=by
 refine pureMA func176 ntmps176 hm fun _=>?_
 refine au [24,14,54,94,4,31,8] ?_
 intro x19 e19 _
 refine au [76,94,4] ?_
 refine qwS (j:=2) rfl UnF.u inferInstance rfl rfl rfl rfl ?_
 intro h20 g21 h22
 refine au [76] ?_
 refine qr (d:=21) (v:=.slice (some ⟨g21,x19.toNat*1,none⟩) (x11.drop x19.toNat).length (c13-x19.toNat)) rfl (by rw[List.length_drop]) (vd EnC.e rfl rfl rfl (fun x23 e23=>qhj F (x11.drop x19.toNat) (some ⟨g21,x19.toNat*1,none⟩) (c13-x19.toNat) x23 e23) (.consG 2 rfl (qAx (qD .i64) h22 (by have:=h20;omega)) .nil) (fun x23 e23=>?_))
 intro _
 refine au [51] ?_
 refine qj [0,4] [] [0,1,2] [0] (fun ((x75,_):qDU×Unit)=>([],[⟨g1,183,[qDX a3 x2 c4.1,qDX a6 x5 c7,qDX a9 x8 c10,qDX a12 x11 c13,qDX a15 x75 c16,qDW x17]⟩],[qD0 a15 x75 c16],[],jH F x5 x8 x11 x17 x19 x75)) ?_ ?_
 refine au [114] ?_
 refine qp [0,4,6,23,24] [] [0,0,0] [0] (fun (((x93,x94),_):(Int×qDU)×Unit)=>([(25,qDW x93)],[⟨g1,183,[qDX a3 x2 c4.1,qDX a6 x5 c7,qDX a9 x8 c10,qDX a12 x11 c13,qDX a15 x94 c16,qDW x17]⟩],[qD0 a15 x94 c16],[])) ((0:Int),x14) () ?_
 intro k0
 rintro ⟨⟨x93,x94⟩,_⟩
 refine aw [39,1,5,24,6,0,2,1,13] ?_ ?_
 refine au [136] ?_
 refine qrA (xs:=x11) rfl rfl underlying56 tf3 rfl rfl rfl (fun x0 e0=>quk (j:=2) (qD .i64) rfl rfl tf3 rfl h22 e0 (fun _=>rfl) rfl rfl ?_)
 refine au [51,5,4,94,4,4] ?_
 refine qcC (j:=3) rfl UnF.u inferInstance rfl rfl rfl rfl ?_
 intro x1 e1 g0 h0
 refine kx (j:=3) (y':=x23) (qD .i64) rfl rfl rfl tf3 rfl h0 (qu e1).2.1 rfl (fun x3 e2 h1=>?_)
 have h2:x3.length=x94.length:=by rw[← e2,qBs]
 refine qr (d:=32) (v:=qDX a15 x3 c16) rfl h1 (qW (i:=0) (cs':=[qDX a3 x2 c4.1,qDX a6 x5 c7,qDX a9 x8 c10,qDX a12 x11 c13,qDX a15 x3 c16,qDW x17]) rfl (by simp only[qDX,h1] <;> rfl) ?_)
 refine au [0,146] ?_
 exact qk ((iadd .i64 x93 1,x3),())
 refine au [91] ?_
 exact qa (x94,())
 rintro ⟨x75,_⟩
 refine au [39,5,4,4,94,4] ?_
 refine qqe (i:=2) (qD .i64) rfl UnF.u inferInstance rfl rfl rfl rfl ?_
 intro x76 e76
 refine au [85,17,0] ?_
 exact qK ((a6,c7),(a9,c10),(a12,c13),a15,c16)
theorem qhf:∀ (F g1:Nat)(x2:List (qDU))(a3:qDV)(c4:(Nat×List (qDV×Nat)))(x5:qDU)(a6:qDV)(c7:Nat)(x8:qDU)(a9:qDV)(c10:Nat)(x11:qDU)(a12:qDV)(c13:Nat)(x14:qDU)(a15:qDV)(c16:Nat)(x17 x18:Int)(r:(qDU×qDU×qDU×qDU×Int)),qX F x2 x5 x8 x11 x14 x17 x18=some r→PureM qD3 132 [qDY g1,qDW x18] [⟨g1,183,[qDX a3 x2 c4.1,qDX a6 x5 c7,qDX a9 x8 c10,qDX a12 x11 c13,qDX a15 x14 c16,qDW x17]⟩] [qD0 a6 x5 c7,qD0 a9 x8 c10,qD0 a12 x11 c13,qD0 a15 x14 c16] [SlN eN56 iN56 1 (qDX a3 x2 c4.1) x2 c4.2] ((qDV×Nat)×(qDV×Nat)×(qDV×Nat)×qDV×Nat) (fun _=>.tuple #[]) (fun g=>[⟨g1,183,[qDX a3 x2 c4.1,qDX g.1.1 r.1 g.1.2,qDX g.2.1.1 r.2.1 g.2.1.2,qDX g.2.2.1.1 r.2.2.1 g.2.2.1.2,qDX g.2.2.2.1 r.2.2.2.1 g.2.2.2.2,qDW r.2.2.2.2]⟩]) (fun g=>[qD0 g.1.1 r.1 g.1.2,qD0 g.2.1.1 r.2.1 g.2.1.2,qD0 g.2.2.1.1 r.2.2.1 g.2.2.1.2,qD0 g.2.2.2.1 r.2.2.2.1 g.2.2.2.2]):=by
  intro F
  induction F with
  | zero=>intro g1 x2 a3 c4 x5 a6 c7 x8 a9 c10 x11 a12 c13 x14 a15 c16 x17 x18 r hm;exact absurd hm (by simp[qX])
  | succ F ih =>
    intro g1 x2 a3 c4 x5 a6 c7 x8 a9 c10 x11 a12 c13 x14 a15 c16 x17 x18 r hm
    refine qjm func132 rfl ntmps132 rfl hm (fun w=>?_)
    refine qos (l':=[(0,qDY g1),(1,qDW x18)]) rfl ?_
    refine kC ?_
    refine qT ?_
    refine qY rfl rfl rfl ?_
    refine kg rfl rfl rfl ?_
    refine qV rfl rfl ff183_5 rfl ?_
    refine zW (i:=0) rfl rfl tf3 rfl rfl (fun _=>rfl) rfl rfl ?_
    refine qkJ rfl rfl rfl rfl ?_
    refine kg rfl rfl rfl ?_
    refine qV rfl rfl ff183_5 rfl ?_
    refine kL (i:=0) rfl rfl rfl tf3 rfl rfl rfl rfl rfl ?_
    refine zH ?_
    refine zC ?_
    refine kC ?_
    refine qbJ (j:=0) rfl (fun x33 e33 g34 h35=>?_)
    replace h35:a6=some ⟨g34,0,none⟩:=h35
    have h36:=zM (k:=x5.length) (c:=c7) h35
    refine qbJ (j:=1) rfl (fun x37 e37 g38 h39=>?_)
    replace h39:a9=some ⟨g38,0,none⟩:=h39
    have h40:=zM (k:=x8.length) (c:=c10) h39
    refine kB mixed [] _ _ (.cons 0 rfl .nil) (qh 0 rfl qf) 22 rfl ?_
    refine qb 0 (qDY g1) rfl rfl rfl (zv rfl) ?_
    refine qb 1 (qDY g1) rfl rfl rfl (zv rfl) ?_
    refine qb 2 (.pointer (some ⟨g1,1,none⟩)) rfl rfl rfl (za rfl ff183_1) ?_
    refine qA 3 (qDX a6 x5 c7) rfl rfl rfl (qy (i:=0) rfl tf56 rfl rfl (fun _=>rfl) rfl) ?_
    refine qb 4 (qDW x18) rfl rfl rfl (zv rfl) ?_
    refine qb 5 (qDY g1) rfl rfl rfl (zv rfl) ?_
    refine qb 6 (qDY g1) rfl rfl rfl (zv rfl) ?_
    refine qb 7 (.pointer (some ⟨g1,2,none⟩)) rfl rfl rfl (za rfl ff183_2) ?_
    refine qA 8 (qDX a9 x8 c10) rfl rfl rfl (qy (i:=0) rfl tf56 rfl rfl (fun _=>rfl) rfl) ?_
    refine qb 9 (qDW x18) rfl rfl rfl (zv rfl) ?_
    refine qb 10 (qDY g1) rfl rfl rfl (zv rfl) ?_
    refine qb 11 (qDY g1) rfl rfl rfl (zv rfl) ?_
    refine qb 12 (.pointer (some ⟨g1,5,none⟩)) rfl rfl rfl (za rfl ff183_5) ?_
    refine qA 13 (qDW (iadd .i64 x17 1)) rfl rfl rfl (qy (i:=0) rfl tf3 rfl rfl (fun _=>rfl) rfl) ?_
    refine qb 14 (qDY g1) rfl rfl rfl (zv rfl) ?_
    refine qb 15 (qDY g1) rfl rfl rfl (zv rfl) ?_
    refine qb 16 (.pointer (some ⟨g1,5,none⟩)) rfl rfl rfl (za rfl ff183_5) ?_
    refine qA 17 (qDW (iadd .i64 x17 1)) rfl rfl rfl (qy (i:=0) rfl tf3 rfl rfl (fun _=>rfl) rfl) ?_
    refine zY (d:=16) (v:=qDX (some ⟨g34,0,none⟩) x5 c7) rfl (by simp only[qDX,h35] <;> rfl) ?_
    refine qb 18 (.pointer (some ⟨g34,x18.toNat*1,none⟩)) rfl rfl rfl (qbs underlying56 tf3 rfl rfl (qu e33).1 (qcB e33)) ?_
    refine zY (d:=16) (v:=qDX a6 x5 c7) rfl (by simp only[qDX,h35] <;> rfl) ?_
    refine qgD 19 rfl (by kernel_rfl) rfl ?_
    refine kx (j:=0) (y':=iadd .i64 x17 1) (qD .i64) rfl rfl rfl tf3 rfl (zM h35) (qu e33).2.1 rfl (fun x41 e41 h42=>?_)
    have h43:x41.length=x5.length:=by rw[← e41,qBs]
    refine qr (d:=16) (v:=qDX a6 x41 c7) rfl h42 ?_
    refine qW (i:=0) (cs':=[qDX a3 x2 c4.1,qDX a6 x41 c7,qDX a9 x8 c10,qDX a12 x11 c13,qDX a15 x14 c16,qDW (iadd .i64 x17 1)]) rfl (by simp only[qDX,h42] <;> rfl) ?_
    refine zH ?_
    refine qc (.cons 0 (by simp only[qDX,h43] <;> rfl) .nil) (qh 0 rfl qf) ?_
    refine zY (d:=21) (v:=qDX (some ⟨g38,0,none⟩) x8 c10) rfl (by simp only[qDX,h39] <;> rfl) ?_
    refine qb 20 (.pointer (some ⟨g38,x18.toNat*1,none⟩)) rfl rfl rfl (qbs underlying56 tf3 rfl rfl (qu e37).1 (qcB e37)) ?_
    refine zY (d:=21) (v:=qDX a9 x8 c10) rfl (by simp only[qDX,h39] <;> rfl) ?_
    refine qgD 21 rfl (by kernel_rfl) rfl ?_
    refine kx (j:=1) (y':=iadd .i64 x17 1) (qD .i64) rfl rfl rfl tf3 rfl (zM h39) (qu e37).2.1 rfl (fun x44 e44 h45=>?_)
    have h46:x44.length=x8.length:=by rw[← e44,qBs]
    refine qr (d:=21) (v:=qDX a9 x44 c10) rfl h45 ?_
    refine qW (i:=0) (cs':=[qDX a3 x2 c4.1,qDX a6 x41 c7,qDX a9 x44 c10,qDX a12 x11 c13,qDX a15 x14 c16,qDW (iadd .i64 x17 1)]) rfl (by simp only[qDX,h45] <;> rfl) ?_
    refine zH ?_
    refine qc (.cons 0 (by simp only[qDX,h43,h46] <;> rfl) .nil) (qh 0 rfl qf) ?_
    refine qgC (by kernel_rfl) ?_
    refine qke ?_ (by intro c h;cases h)
    refine zC ?_
    refine kC ?_
    refine qT ?_
    refine qY rfl rfl rfl ?_
    refine qY rfl rfl rfl ?_
    refine kg rfl rfl rfl ?_
    refine qV rfl rfl ff183_3 rfl ?_
    refine zW (i:=0) rfl rfl tf56 rfl rfl (fun _=>rfl) rfl rfl ?_
    refine qY rfl rfl rfl ?_
    refine qaj (vs:=[qDW x18]) (ys:=([x18]:qDU)) (qD .i64) (by decide) rfl underlying56 tf3 rfl rfl rfl rfl rfl (by decide) (fun a47 c48=>?_)
    refine zw 3 (qD .i64) rfl underlying56 tf3 rfl rfl rfl rfl rfl (.inl ⟨0,_,rfl⟩) rfl rfl (fun x49 e49 a50 c51=>?_)
    refine kg rfl rfl rfl ?_
    refine qV rfl rfl ff183_3 rfl ?_
    refine kL (i:=0) rfl rfl rfl tf56 rfl rfl rfl rfl rfl ?_
    refine zH ?_
    refine zC ?_
    refine qj [0,1] [] [] [0] (fun (((x0,x1,x3,x4,x6),a0,c0,a1,c1,a2,c2,a4,c3):(qDU×qDU×qDU×qDU×Int)×qDV×Nat×qDV×Nat×qDV×Nat×qDV×Nat)=>([],[⟨g1,183,[qDX a3 x2 c4.1,qDX a0 x0 c0,qDX a1 x1 c1,qDX a2 x3 c2,qDX a4 x4 c3,qDW x6]⟩],[qD0 a0 x0 c0,qD0 a1 x1 c1,qD0 a2 x3 c2,qD0 a4 x4 c3],[],jJ F x2 x18 x0 x1 x3 x4 x6)) ?_ ?_
    · refine kC ?_
      refine qT ?_
      refine qY rfl rfl rfl ?_
      refine kg rfl rfl rfl ?_
      refine qV rfl rfl ff183_0 rfl ?_
      refine zW (i:=0) rfl rfl tf22 rfl rfl (fun _=>rfl) rfl rfl ?_
      refine qY rfl rfl rfl ?_
      refine qiI (j:=0) qq (by decide) rfl underlying22 tf56 rfl rfl rfl rfl (fun x7 e0 g0 b0 o0=>?_)
      refine qhX (j:=0) rfl rfl tf56 rfl rfl (fun _=>rfl) rfl rfl ?_
      refine qox rfl underlying56 rfl rfl ?_
      refine qY rfl rfl rfl ?_
      refine zH ?_
      refine zC ?_
      refine qgE ?_
      refine qnb [0,1,49,50] [] [] [1,2] (fun (((x9,x10,x12,x13,x15,x16),a5,c5,a7,c6,a8,c8,a10,c9):(Int×qDU×qDU×qDU×qDU×Int)×qDV×Nat×qDV×Nat×qDV×Nat×qDV×Nat)=>([(51,qDW x9)],[⟨g1,183,[qDX a3 x2 c4.1,qDX a5 x10 c5,qDX a7 x12 c6,qDX a8 x13 c8,qDX a10 x15 c9,qDW x16]⟩],[qD0 a5 x10 c5,qD0 a7 x12 c6,qD0 a8 x13 c8,qD0 a10 x15 c9],[])) (fun k (s:(Int×qDU×qDU×qDU×qDU×Int)×qDV×Nat×qDV×Nat×qDV×Nat×qDV×Nat)=>zm F (qX F) x2 x18 x7 k s.1) ((0,x41,x44,x49,x14,iadd .i64 x17 1),a6,c7,a9,c10,a50,c51,a15,c16) F ?_
      intro k0
      rintro ⟨⟨x9,x10,x12,x13,x15,x16⟩,a5,c5,a7,c6,a8,c8,a10,c9⟩
      try dsimp only
      refine qaM (m':=yX F (qX F) x2 x18 x7 (zm F (qX F) x2 x18 x7 k0) x9 x10 x12 x13 x15 x16) rfl ?_
      refine kC ?_
      refine qT ?_
      refine qoy rfl rfl rfl rfl ?_
      refine zH ?_
      refine zC ?_
      refine kC ?_
      refine qj9 rfl (fun h0=>?_) (fun h0=>?_)
      · refine qhK ?_
        refine zC ?_
        refine qj [0,1,49,50,51] [] [] [0,1] (fun (((x19,x20,x21,x22,x23),a11,c11,a13,c12,a14,c14,a16,c15):(qDU×qDU×qDU×qDU×Int)×qDV×Nat×qDV×Nat×qDV×Nat×qDV×Nat)=>([],[⟨g1,183,[qDX a3 x2 c4.1,qDX a11 x19 c11,qDX a13 x20 c12,qDX a14 x21 c14,qDX a16 x22 c15,qDW x23]⟩],[qD0 a11 x19 c11,qD0 a13 x20 c12,qD0 a14 x21 c14,qD0 a16 x22 c15],[],zF F (zm F (qX F) x2 x18 x7 k0) x9 x19 x20 x21 x22 x23)) ?_ ?_
        · refine qgE ?_
          refine kC ?_
          refine qT ?_
          refine vT (j:=0) (qD .i64) (by decide) rfl underlying56 tf3 rfl rfl rfl rfl (fun x24 e1 b1 o1=>?_)
          refine qhX (j:=0) rfl rfl tf3 rfl rfl (fun _=>rfl) rfl rfl ?_
          refine kK rfl rfl rfl ?_
          refine zH ?_
          refine zC ?_
          refine qgE ?_
          refine kC ?_
          refine qT ?_
          refine qY rfl rfl rfl ?_
          refine kg rfl rfl rfl ?_
          refine qV rfl rfl ff183_1 rfl ?_
          refine zW (i:=0) rfl rfl tf56 rfl rfl (fun _=>rfl) rfl rfl ?_
          refine qY rfl rfl rfl ?_
          refine qcC (j:=0) rfl underlying56 tf3 rfl rfl rfl rfl (fun x25 e2 g2 h1=>?_)
          refine ko (j:=0) (y:=x25) (qD .i64) rfl rfl tf3 rfl h1 (qu e2).2.2 (fun _=>rfl) rfl rfl ?_
          refine qs7 rfl rfl rfl rfl ?_
          refine kK rfl rfl rfl ?_
          refine zH ?_
          refine zC ?_
          refine qj9 rfl (fun h2=>?_) (fun h2=>?_)
          · refine kC ?_
            refine qT ?_
            refine qY rfl rfl rfl ?_
            refine qY rfl rfl rfl ?_
            refine qcJ EnC.e rfl rfl rfl (fun x26 e3=>ih g1 x2 a3 c4 x10 a5 c5 x12 a7 c6 x13 a8 c8 x15 a10 c9 x16 x24 x26 e3) (.cons 0 rfl .nil) (.cons 0 rfl (.cons 0 rfl (.cons 0 rfl (.cons 0 rfl .nil)))) (.consF 2 rfl .nil) (fun x26 e3=>?_)
            rintro ⟨⟨a17,c17⟩,⟨a18,c18⟩,⟨a19,c19⟩,a20,c20⟩
            refine zH ?_
            refine zC ?_
            refine qbJ (j:=1) rfl (fun x27 e4 g3 h3=>?_)
            replace h3:a18=some ⟨g3,0,none⟩:=h3
            have h4:=zM (k:=x26.2.1.length) (c:=c18) h3
            refine qbJ (j:=1) rfl (fun x28 e5 g4 h5=>?_)
            replace h5:a18=some ⟨g4,0,none⟩:=h5
            have h6:=zM (k:=x26.2.1.length) (c:=c18) h5
            refine qbJ (j:=1) rfl (fun x29 e6 g5 h7=>?_)
            replace h7:a18=some ⟨g5,0,none⟩:=h7
            have h8:=zM (k:=x26.2.1.length) (c:=c18) h7
            refine kB mixed [21] _ _ (.cons 0 rfl .nil) (qh 0 rfl (qh 1 rfl (qh 2 rfl (qE 1 rfl (qn (qD .i64) e4 h3) (qE 1 rfl (qn (qD .i64) e5 h5) (qE 1 rfl (qn (qD .i64) e6 h7) qf)))))) 22 rfl ?_
            refine qb 0 (qDY g1) rfl rfl rfl (zv rfl) ?_
            refine qb 1 (qDY g1) rfl rfl rfl (zv rfl) ?_
            refine qb 2 (.pointer (some ⟨g1,2,none⟩)) rfl rfl rfl (za rfl ff183_2) ?_
            refine qA 3 (qDX a18 x26.2.1 c18) rfl rfl rfl (qy (i:=0) rfl tf56 rfl rfl (fun _=>rfl) rfl) ?_
            refine qb 4 (qDW x18) rfl rfl rfl (zv rfl) ?_
            refine qb 5 (qDY g1) rfl rfl rfl (zv rfl) ?_
            refine qb 6 (qDY g1) rfl rfl rfl (zv rfl) ?_
            refine qb 7 (.pointer (some ⟨g1,2,none⟩)) rfl rfl rfl (za rfl ff183_2) ?_
            refine qA 8 (qDX a18 x26.2.1 c18) rfl rfl rfl (qy (i:=0) rfl tf56 rfl rfl (fun _=>rfl) rfl) ?_
            refine qb 9 (qDW x18) rfl rfl rfl (zv rfl) ?_
            refine zY (d:=75) (v:=qDX (some ⟨g3,0,none⟩) x26.2.1 c18) rfl (by simp only[qDX,h3] <;> rfl) ?_
            refine qb 10 (.pointer (some ⟨g3,x18.toNat*1,none⟩)) rfl rfl rfl (qbs underlying56 tf3 rfl rfl (qu e4).1 (qcB e4)) ?_
            refine zY (d:=75) (v:=qDX a18 x26.2.1 c18) rfl (by simp only[qDX,h3] <;> rfl) ?_
            refine qB 11 (qDW x27) [[21]] rfl rfl rfl (qZ (j:=3) rfl tf3 rfl rfl (fun _=>rfl) rfl) ?_
            refine qb 12 (qDY g1) rfl rfl rfl (zv rfl) ?_
            refine qb 13 (qDY g1) rfl rfl rfl (zv rfl) ?_
            refine qb 14 (.pointer (some ⟨g1,2,none⟩)) rfl rfl rfl (za rfl ff183_2) ?_
            refine qA 15 (qDX a18 x26.2.1 c18) rfl rfl rfl (qy (i:=0) rfl tf56 rfl rfl (fun _=>rfl) rfl) ?_
            refine qb 16 (qDW x24) rfl rfl rfl (zv rfl) ?_
            refine zY (d:=82) (v:=qDX (some ⟨g4,0,none⟩) x26.2.1 c18) rfl (by simp only[qDX,h5] <;> rfl) ?_
            refine qb 17 (.pointer (some ⟨g4,x24.toNat*1,none⟩)) rfl rfl rfl (qbs underlying56 tf3 rfl rfl (qu e5).1 (qcB e5)) ?_
            refine zY (d:=82) (v:=qDX a18 x26.2.1 c18) rfl (by simp only[qDX,h5] <;> rfl) ?_
            refine qB 18 (qDW x28) [[21]] rfl rfl rfl (qZ (j:=4) rfl tf3 rfl rfl (fun _=>rfl) rfl) ?_
            refine qb 19 (qDW (imin x27 x28)) rfl rfl rfl (qrT rfl rfl) ?_
            refine zY (d:=70) (v:=qDX (some ⟨g5,0,none⟩) x26.2.1 c18) rfl (by simp only[qDX,h7] <;> rfl) ?_
            refine qb 20 (.pointer (some ⟨g5,x18.toNat*1,none⟩)) rfl rfl rfl (qbs underlying56 tf3 rfl rfl (qu e6).1 (qcB e6)) ?_
            refine zY (d:=70) (v:=qDX a18 x26.2.1 c18) rfl (by simp only[qDX,h7] <;> rfl) ?_
            refine qgD 21 rfl (by kernel_rfl) rfl ?_
            refine kx (j:=1) (y':=imin x27 x28) (qD .i64) rfl rfl rfl tf3 rfl (zM h7) (qu e6).2.1 rfl (fun x30 e7 h9=>?_)
            have h10:x30.length=x26.2.1.length:=by rw[← e7,qBs]
            refine qr (d:=70) (v:=qDX a18 x30 c18) rfl h9 ?_
            refine qr (d:=75) (v:=qDX a18 x30 c18) rfl h9 ?_
            refine qr (d:=82) (v:=qDX a18 x30 c18) rfl h9 ?_
            refine qW (i:=0) (cs':=[qDX a3 x2 c4.1,qDX a17 x26.1 c17,qDX a18 x30 c18,qDX a19 x26.2.2.1 c19,qDX a20 x26.2.2.2.1 c20,qDW x26.2.2.2.2]) rfl (by simp only[qDX,h9] <;> rfl) ?_
            refine zH ?_
            refine kZ 21 rfl (by kernel_rfl) (.cons 0 (by simp only[qDX,h10] <;> rfl) .nil) ?_
            refine qgC (by kernel_rfl) ?_
            refine qke ?_ (by intro c h;cases h)
            refine qem ?_
            refine qem ?_
            exact yj ((x26.1,x30,x26.2.2.1,x26.2.2.2.1,x26.2.2.2.2),a17,c17,a18,c18,a19,c19,a20,c20) (hB:=(.cons 0 rfl .nil)) (hR:=(.cons 1 rfl (.cons 0 rfl (.cons 0 rfl (.cons 0 rfl .nil))))) (hF:=(qi 1 rfl (qi 2 rfl zG)))
          · refine kC ?_
            refine qT ?_
            refine qY rfl rfl rfl ?_
            refine kg rfl rfl rfl ?_
            refine qV rfl rfl ff183_4 rfl ?_
            refine zW (i:=0) rfl rfl tf56 rfl rfl (fun _=>rfl) rfl rfl ?_
            refine qY rfl rfl rfl ?_
            refine qcC (j:=3) rfl underlying56 tf3 rfl rfl rfl rfl (fun x31 e8 g6 h11=>?_)
            refine ko (j:=3) (y:=x31) (qD .i64) rfl rfl tf3 rfl h11 (qu e8).2.2 (fun _=>rfl) rfl rfl ?_
            refine qoy rfl rfl rfl rfl ?_
            refine kK rfl rfl rfl ?_
            refine zH ?_
            refine zC ?_
            refine qj9 rfl (fun h12=>?_) (fun h12=>?_)
            · refine qbJ (j:=1) rfl (fun x32 e9 g7 h13=>?_)
              replace h13:a7=some ⟨g7,0,none⟩:=h13
              have h14:=zM (k:=x12.length) (c:=c6) h13
              refine qbJ (j:=0) rfl (fun x34 e10 g8 h15=>?_)
              replace h15:a5=some ⟨g8,0,none⟩:=h15
              have h16:=zM (k:=x10.length) (c:=c5) h15
              refine qbJ (j:=1) rfl (fun x35 e11 g9 h17=>?_)
              replace h17:a7=some ⟨g9,0,none⟩:=h17
              have h18:=zM (k:=x12.length) (c:=c6) h17
              refine kB mixed [21] _ _ (.cons 0 rfl .nil) (qh 0 rfl (qh 1 rfl (qh 2 rfl (qE 1 rfl (qn (qD .i64) e9 h13) (qE 0 rfl (qn (qD .i64) e10 h15) (qE 1 rfl (qn (qD .i64) e11 h17) qf)))))) 22 rfl ?_
              refine qb 0 (qDY g1) rfl rfl rfl (zv rfl) ?_
              refine qb 1 (qDY g1) rfl rfl rfl (zv rfl) ?_
              refine qb 2 (.pointer (some ⟨g1,2,none⟩)) rfl rfl rfl (za rfl ff183_2) ?_
              refine qA 3 (qDX a7 x12 c6) rfl rfl rfl (qy (i:=0) rfl tf56 rfl rfl (fun _=>rfl) rfl) ?_
              refine qb 4 (qDW x18) rfl rfl rfl (zv rfl) ?_
              refine qb 5 (qDY g1) rfl rfl rfl (zv rfl) ?_
              refine qb 6 (qDY g1) rfl rfl rfl (zv rfl) ?_
              refine qb 7 (.pointer (some ⟨g1,2,none⟩)) rfl rfl rfl (za rfl ff183_2) ?_
              refine qA 8 (qDX a7 x12 c6) rfl rfl rfl (qy (i:=0) rfl tf56 rfl rfl (fun _=>rfl) rfl) ?_
              refine qb 9 (qDW x18) rfl rfl rfl (zv rfl) ?_
              refine zY (d:=105) (v:=qDX (some ⟨g7,0,none⟩) x12 c6) rfl (by simp only[qDX,h13] <;> rfl) ?_
              refine qb 10 (.pointer (some ⟨g7,x18.toNat*1,none⟩)) rfl rfl rfl (qbs underlying56 tf3 rfl rfl (qu e9).1 (qcB e9)) ?_
              refine zY (d:=105) (v:=qDX a7 x12 c6) rfl (by simp only[qDX,h13] <;> rfl) ?_
              refine qB 11 (qDW x32) [[21]] rfl rfl rfl (qZ (j:=3) rfl tf3 rfl rfl (fun _=>rfl) rfl) ?_
              refine qb 12 (qDY g1) rfl rfl rfl (zv rfl) ?_
              refine qb 13 (qDY g1) rfl rfl rfl (zv rfl) ?_
              refine qb 14 (.pointer (some ⟨g1,1,none⟩)) rfl rfl rfl (za rfl ff183_1) ?_
              refine qA 15 (qDX a5 x10 c5) rfl rfl rfl (qy (i:=0) rfl tf56 rfl rfl (fun _=>rfl) rfl) ?_
              refine qb 16 (qDW x24) rfl rfl rfl (zv rfl) ?_
              refine zY (d:=112) (v:=qDX (some ⟨g8,0,none⟩) x10 c5) rfl (by simp only[qDX,h15] <;> rfl) ?_
              refine qb 17 (.pointer (some ⟨g8,x24.toNat*1,none⟩)) rfl rfl rfl (qbs underlying56 tf3 rfl rfl (qu e10).1 (qcB e10)) ?_
              refine zY (d:=112) (v:=qDX a5 x10 c5) rfl (by simp only[qDX,h15] <;> rfl) ?_
              refine qB 18 (qDW x34) [[21]] rfl rfl rfl (qZ (j:=4) rfl tf3 rfl rfl (fun _=>rfl) rfl) ?_
              refine qb 19 (qDW (imin x32 x34)) rfl rfl rfl (qrT rfl rfl) ?_
              refine zY (d:=100) (v:=qDX (some ⟨g9,0,none⟩) x12 c6) rfl (by simp only[qDX,h17] <;> rfl) ?_
              refine qb 20 (.pointer (some ⟨g9,x18.toNat*1,none⟩)) rfl rfl rfl (qbs underlying56 tf3 rfl rfl (qu e11).1 (qcB e11)) ?_
              refine zY (d:=100) (v:=qDX a7 x12 c6) rfl (by simp only[qDX,h17] <;> rfl) ?_
              refine qgD 21 rfl (by kernel_rfl) rfl ?_
              refine kx (j:=1) (y':=imin x32 x34) (qD .i64) rfl rfl rfl tf3 rfl (zM h17) (qu e11).2.1 rfl (fun x36 e12 h19=>?_)
              have h20:x36.length=x12.length:=by rw[← e12,qBs]
              refine qr (d:=100) (v:=qDX a7 x36 c6) rfl h19 ?_
              refine qr (d:=105) (v:=qDX a7 x36 c6) rfl h19 ?_
              refine qW (i:=0) (cs':=[qDX a3 x2 c4.1,qDX a5 x10 c5,qDX a7 x36 c6,qDX a8 x13 c8,qDX a10 x15 c9,qDW x16]) rfl (by simp only[qDX,h19] <;> rfl) ?_
              refine zH ?_
              refine kZ 21 rfl (by kernel_rfl) (.cons 0 (by simp only[qDX,h20] <;> rfl) .nil) ?_
              refine qgC (by kernel_rfl) ?_
              refine qke ?_ (by intro c h;cases h)
              refine qem ?_
              refine qem ?_
              exact yj ((x10,x36,x13,x15,x16),a5,c5,a7,c6,a8,c8,a10,c9) (hB:=(.cons 0 rfl .nil)) (hR:=(.cons 1 rfl (.cons 0 rfl (.cons 0 rfl (.cons 0 rfl .nil))))) (hF:=(qi 1 rfl (qi 2 rfl zG)))
            · refine qhK ?_
              refine qem ?_
              refine qem ?_
              exact yj ((x10,x12,x13,x15,x16),a5,c5,a7,c6,a8,c8,a10,c9) (hB:=(.cons 0 rfl .nil)) (hR:=(.cons 0 rfl (.cons 0 rfl (.cons 0 rfl (.cons 0 rfl .nil))))) (hF:=(qi 1 rfl (qi 2 rfl zG)))
        · rintro ⟨⟨x19,x20,x21,x22,x23⟩,a11,c11,a13,c12,a14,c14,a16,c15⟩
          try dsimp only
          refine qT ?_
          refine qkJ rfl rfl rfl rfl ?_
          refine qY rfl rfl rfl ?_
          refine zH ?_
          exact vr ((iadd .i64 x9 1,x19,x20,x21,x22,x23),a11,c11,a13,c12,a14,c14,a16,c15) (hB:=(.cons 0 rfl .nil)) (hR:=(.cons 0 rfl (.cons 0 rfl (.cons 0 rfl (.cons 0 rfl .nil))))) (hF:=(qi 0 rfl (qi 1 rfl zG)))
      · refine qqa ?_
        refine qkf ?_
        refine qkf ?_
        refine qqk ?_
        exact yj ((x10,x12,x13,x15,x16),a5,c5,a7,c6,a8,c8,a10,c9) (hB:=(.cons 0 rfl .nil)) (hR:=(.cons 0 rfl (.cons 0 rfl (.cons 0 rfl (.cons 0 rfl .nil))))) (hF:=(qi 1 rfl zG))
    · rintro ⟨⟨x0,x1,x3,x4,x6⟩,a0,c0,a1,c1,a2,c2,a4,c3⟩
      try dsimp only
      refine kC ?_
      refine qbJ (j:=1) rfl (fun x38 e13 g10 h21=>?_)
      replace h21:a1=some ⟨g10,0,none⟩:=h21
      have h22:=zM (k:=x1.length) (c:=c1) h21
      refine qbJ (j:=0) rfl (fun x39 e14 g11 h23=>?_)
      replace h23:a0=some ⟨g11,0,none⟩:=h23
      have h24:=zM (k:=x0.length) (c:=c0) h23
      refine kB mixed [] _ _ (.cons 0 rfl .nil) (qh 0 rfl (qE 1 rfl (qn (qD .i64) e13 h21) (qE 0 rfl (qn (qD .i64) e14 h23) qf))) 15 rfl ?_
      refine qb 0 (qDY g1) rfl rfl rfl (zv rfl) ?_
      refine qb 1 (qDY g1) rfl rfl rfl (zv rfl) ?_
      refine qb 2 (.pointer (some ⟨g1,2,none⟩)) rfl rfl rfl (za rfl ff183_2) ?_
      refine qA 3 (qDX a1 x1 c1) rfl rfl rfl (qy (i:=0) rfl tf56 rfl rfl (fun _=>rfl) rfl) ?_
      refine qb 4 (qDW x18) rfl rfl rfl (zv rfl) ?_
      refine zY (d:=122) (v:=qDX (some ⟨g10,0,none⟩) x1 c1) rfl (by simp only[qDX,h21] <;> rfl) ?_
      refine qb 5 (.pointer (some ⟨g10,x18.toNat*1,none⟩)) rfl rfl rfl (qbs underlying56 tf3 rfl rfl (qu e13).1 (qcB e13)) ?_
      refine zY (d:=122) (v:=qDX a1 x1 c1) rfl (by simp only[qDX,h21] <;> rfl) ?_
      refine qB 6 (qDW x38) [] rfl rfl rfl (qZ (j:=1) rfl tf3 rfl rfl (fun _=>rfl) rfl) ?_
      refine qb 7 (qDY g1) rfl rfl rfl (zv rfl) ?_
      refine qb 8 (qDY g1) rfl rfl rfl (zv rfl) ?_
      refine qb 9 (.pointer (some ⟨g1,1,none⟩)) rfl rfl rfl (za rfl ff183_1) ?_
      refine qA 10 (qDX a0 x0 c0) rfl rfl rfl (qy (i:=0) rfl tf56 rfl rfl (fun _=>rfl) rfl) ?_
      refine qb 11 (qDW x18) rfl rfl rfl (zv rfl) ?_
      refine zY (d:=129) (v:=qDX (some ⟨g11,0,none⟩) x0 c0) rfl (by simp only[qDX,h23] <;> rfl) ?_
      refine qb 12 (.pointer (some ⟨g11,x18.toNat*1,none⟩)) rfl rfl rfl (qbs underlying56 tf3 rfl rfl (qu e14).1 (qcB e14)) ?_
      refine zY (d:=129) (v:=qDX a0 x0 c0) rfl (by simp only[qDX,h23] <;> rfl) ?_
      refine qB 13 (qDW x39) [] rfl rfl rfl (qZ (j:=2) rfl tf3 rfl rfl (fun _=>rfl) rfl) ?_
      refine qb 14 (.bool ((x38:Int) == x39)) rfl rfl rfl (zv rfl) ?_
      refine qgC (by kernel_rfl) ?_
      refine qke ?_ (by intro c h;cases h)
      refine zC ?_
      refine qj9 rfl (fun h25=>?_) (fun h25=>?_)
      · refine qT ?_
        refine qY rfl rfl rfl ?_
        refine qY rfl rfl rfl ?_
        refine qcJ EnC.e rfl rfl rfl (fun x40 e15=>qhe F g1 x2 a3 c4 x0 a0 c0 x1 a1 c1 x3 a2 c2 x4 a4 c3 x6 x18 x40 e15) (.cons 0 rfl .nil) (.cons 0 rfl (.cons 0 rfl (.cons 0 rfl (.cons 0 rfl .nil)))) (.consF 0 rfl .nil) (fun x40 e15=>?_)
        rintro ⟨⟨a21,c21⟩,⟨a22,c22⟩,⟨a23,c23⟩,a24,c24⟩
        refine zH ?_
        exact yD ((a21,c21),(a22,c22),(a23,c23),a24,c24) (res0 rfl) (hB:=fun h=>by subst h;exact (.cons 0 rfl .nil)) (hR:=fun h=>by subst h;exact (.cons 0 rfl (.cons 0 rfl (.cons 0 rfl (.cons 0 rfl .nil)))))
      · refine qhK ?_
        exact yD ((a0,c0),(a1,c1),(a2,c2),a4,c3) (res0 rfl) (hB:=fun h=>by subst h;exact (.cons 0 rfl .nil)) (hR:=fun h=>by subst h;exact (.cons 0 rfl (.cons 0 rfl (.cons 0 rfl (.cons 0 rfl .nil)))))
end Go.Proofs.YthibchijlpflmaaGreatDoor
