/- Each Go function of this seat computes what its model says. -/
import Derived.Test.YthibchijlpflmaaGreatDoorRows
import Derived.Test.YthibchijlpflmaaGreatDoorModels
import Derived.Test.YthibchijlpflmaaGreatDoorShelf
import Derived.Test.YthibchijlpflmaaGreatDoorTxt
open List renaming replicate→qCc, length_set→qCw
namespace Go.Proofs.YthibchijlpflmaaGreatDoor
open Go SX
open Go.Proofs.Tryz
open Go.Proofs.Tryz renaming prog→qFj
abbrev qFk (f:FuncId)(vs:List Value)(s:List (World→Prop))(v:Value):Prop:=Pure qFj f vs s Unit (fun _=>v) (fun _=>[]) (fun _=>[])
set_option maxHeartbeats 4000000
set_option linter.unusedSimpArgs false
variable {F t1:Nat}{p1:List (qFa)}{l1:qFb}{n1:List (qFb×Nat)}{i1 i2 i3 i4:Int}{m1 m2:qFa}
def eN56 (p:qFa×qFb×Nat):List Value:=[qFd p.2.1 p.1 p.2.2]
def iN56 (p:qFa×qFb×Nat):List (World→Prop):=[qFf p.2.1 p.1 p.2.2]
theorem qq:EncOk eN56 1:=⟨fun _=>rfl,fun _=>rfl⟩
def rN56 (p:qFa×qFb×Nat):List RowF:=[FoR (eI .i64) 3 1 (qFd p.2.1 p.1 p.2.2) p.1]
theorem qex:∀ p,iN56 p=(rN56 p).map RowF.cells:=fun _=>rfl
theorem qwV:∀ f∈rN56 (([]:qFa),((none,0):qFb×Nat)),f.v=.slice none 0 0∧f.n=0∧f.cs=[]:=by simp[rN56,FoR]
def eS63 (p:(Int×Int)):List Value:=[qFc p.1,qFc p.2]
theorem qeu:EncOk eS63 2:=⟨fun _=>rfl,fun _=>rfl⟩
def eS209 (p:(Int×Int)):List Value:=[qFc p.1,qFc p.2]
theorem qgT:EncOk eS209 2:=⟨fun _=>rfl,fun _=>rfl⟩
instance tf3:TyF qFj 3 false (qFc 0) 1 8:=.of
instance tf4:TyF qFj 4 false (.bool false) 1 1:=.of
instance tf5:TyF qFj 5 false (.int .u8 0) 1 1:=.of
instance tf9:TyF qFj 9 false (.string (bstr ([]:qFa))) 1 16:=.of
instance tf22:TyF qFj 22 false (.slice none 0 0) 1 24:=.of
instance tf24:TyF qFj 24 true (.agg #[.slice none 0 0]) 1 24:=.of
instance tf26:TyF qFj 26 true (.agg #[qFc 0,qFc 0,qFc 0]) 3 24:=.of
instance tf28:TyF qFj 28 true (.agg #[.slice none 0 0,qFc 0,qFc 0,qFc 0]) 4 48:=.of
instance:TyF qFj 41 false (.slice none 0 0) 1 24:=.of
instance:TyF qFj 48 true (.agg #[.pointer none,.slice none 0 0]) 2 32:=.of
instance tf56:TyF qFj 56 false (.slice none 0 0) 1 24:=.of
instance:TyF qFj 58 false (.slice none 0 0) 1 24:=.of
instance tf63:TyF qFj 63 true (.agg #[qFc 0,qFc 0]) 2 16:=.of
instance tf65:TyF qFj 65 true (.agg #[qFc 0,.slice none 0 0]) 2 32:=.of
instance tf67:TyF qFj 67 true (.agg #[qFc 0,qFc 0,qFc 0,qFc 0,qFc 0,.slice none 0 0]) 6 64:=.of
instance tf69:TyF qFj 69 true (.agg #[qFc 0,qFc 0,qFc 0,qFc 0,.slice none 0 0,qFc 0,.slice none 0 0]) 7 88:=.of
instance tf71:TyF qFj 71 true (.agg #[qFc 0,qFc 0,qFc 0,qFc 0,qFc 0,.slice none 0 0,qFc 0,qFc 0,qFc 0,qFc 0,.slice none 0 0,qFc 0,.slice none 0 0]) 13 152:=.of
instance:TyF qFj 83 false (.pointer none) 1 8:=.of
instance:TyF qFj 86 false (.nilFunc) 1 8:=.of
instance tf88:TyF qFj 88 true (.agg #[qFc 0,.nilFunc]) 2 16:=.of
instance:TyF qFj 107 false (.nilFunc) 1 8:=.of
instance tf119:TyF qFj 119 false (.int .u64 0) 1 8:=.of
instance tf156:TyF qFj 156 true (.agg #[]) 0 0:=.of
instance tf188:TyF qFj 188 true (.agg #[qFc 0,qFc 0,qFc 0]) 3 24:=.of
instance tf204:TyF qFj 204 false (.slice none 0 0) 1 24:=.of
instance tf209:TyF qFj 209 true (.agg #[qFc 0,qFc 0]) 2 16:=.of
instance:TyF qFj 247 true (.agg #[qFc 0,qFc 0,.slice none 0 0]) 3 40:=.of
instance:TyF qFj 293 false (.pointer none) 1 8:=.of
instance tf310:TyF qFj 310 true (.agg #[]) 0 0:=.of
instance:FdF qFj 24 0 0:=.of
instance ff26_0:FdF qFj 26 0 0:=.of
instance:FdF qFj 26 1 1:=.of
instance:FdF qFj 26 2 2:=.of
instance:FdF qFj 28 0 0:=.of
instance:FdF qFj 28 1 1:=.of
instance:FdF qFj 63 0 0:=.of
instance:FdF qFj 63 1 1:=.of
instance:FdF qFj 65 0 0:=.of
instance:FdF qFj 65 1 1:=.of
instance:FdF qFj 67 0 0:=.of
instance ff67_1:FdF qFj 67 1 1:=.of
instance ff67_2:FdF qFj 67 2 4:=.of
instance:FdF qFj 69 0 0:=.of
instance:FdF qFj 69 1 1:=.of
instance:FdF qFj 69 2 2:=.of
instance:FdF qFj 69 3 3:=.of
instance:FdF qFj 69 4 5:=.of
instance ff71_0:FdF qFj 71 0 0:=.of
instance ff71_1:FdF qFj 71 1 6:=.of
instance:FdF qFj 85 0 0:=.of
instance:FdF qFj 85 1 4:=.of
instance:FdF qFj 85 2 5:=.of
instance:FdF qFj 88 0 0:=.of
instance:FdF qFj 88 1 1:=.of
instance:FdF qFj 137 0 0:=.of
instance:FdF qFj 137 1 1:=.of
instance:FdF qFj 169 0 0:=.of
instance:FdF qFj 169 1 6:=.of
instance:FdF qFj 169 2 7:=.of
instance ff174_0:FdF qFj 174 0 0:=.of
instance ff174_1:FdF qFj 174 1 13:=.of
instance ff183_0:FdF qFj 183 0 0:=.of
instance ff183_1:FdF qFj 183 1 1:=.of
instance ff183_2:FdF qFj 183 2 2:=.of
instance ff183_3:FdF qFj 183 3 3:=.of
instance ff183_4:FdF qFj 183 4 4:=.of
instance ff183_5:FdF qFj 183 5 5:=.of
instance:FdF qFj 209 0 0:=.of
instance:FdF qFj 209 1 1:=.of
instance:FdF qFj 247 0 0:=.of
instance:FdF qFj 247 1 1:=.of
instance:FdF qFj 263 0 0:=.of
instance:FdF qFj 263 1 2:=.of
instance:FdF qFj 299 0 0:=.of
instance:FdF qFj 302 0 0:=.of
instance:FdF qFj 302 1 2:=.of
instance:FdF qFj 316 0 0:=.of
instance:FdF qFj 316 1 2:=.of
instance:FdF qFj 359 0 0:=.of
instance:FdF qFj 359 1 1:=.of
instance:FdF qFj 363 0 0:=.of
instance:FdF qFj 363 1 1:=.of
instance:FdF qFj 363 2 2:=.of
instance st24:StF qFj 24 [(0,1)] (.agg #[.slice none 0 0]):=.of
instance st26:StF qFj 26 [(0,1),(1,1),(2,1)] (.agg #[qFc 0,qFc 0,qFc 0]):=.of
instance st28:StF qFj 28 [(0,1),(1,3)] (.agg #[.slice none 0 0,qFc 0,qFc 0,qFc 0]):=.of
instance st63:StF qFj 63 [(0,1),(1,1)] (.agg #[qFc 0,qFc 0]):=.of
instance st65:StF qFj 65 [(0,1),(1,1)] (.agg #[qFc 0,.slice none 0 0]):=.of
instance:StF qFj 67 [(0,1),(1,3),(4,2)] (.agg #[qFc 0,qFc 0,qFc 0,qFc 0,qFc 0,.slice none 0 0]):=.of
instance:StF qFj 69 [(0,1),(1,1),(2,1),(3,2),(5,2)] (.agg #[qFc 0,qFc 0,qFc 0,qFc 0,.slice none 0 0,qFc 0,.slice none 0 0]):=.of
instance:StF qFj 71 [(0,6),(6,7)] (.agg #[qFc 0,qFc 0,qFc 0,qFc 0,qFc 0,.slice none 0 0,qFc 0,qFc 0,qFc 0,qFc 0,.slice none 0 0,qFc 0,.slice none 0 0]):=.of
instance:StF qFj 85 [(0,4),(4,1),(5,1)] (.agg #[.slice none 0 0,qFc 0,qFc 0,qFc 0,.slice none 0 0,.string (bstr ([]:qFa))]):=.of
instance:StF qFj 88 [(0,1),(1,1)] (.agg #[qFc 0,.nilFunc]):=.of
instance:StF qFj 137 [(0,1),(1,1)] (.agg #[.slice none 0 0,.slice none 0 0]):=.of
instance:StF qFj 156 [] (.agg #[]):=.of
instance:StF qFj 169 [(0,6),(6,1),(7,1)] (.agg #[qFc 0,qFc 0,qFc 0,qFc 0,qFc 0,.slice none 0 0,.slice none 0 0,.slice none 0 0]):=.of
instance:StF qFj 174 [(0,13),(13,1)] (.agg #[qFc 0,qFc 0,qFc 0,qFc 0,qFc 0,.slice none 0 0,qFc 0,qFc 0,qFc 0,qFc 0,.slice none 0 0,qFc 0,.slice none 0 0,qFc 0]):=.of
instance:StF qFj 183 [(0,1),(1,1),(2,1),(3,1),(4,1),(5,1)] (.agg #[.slice none 0 0,.slice none 0 0,.slice none 0 0,.slice none 0 0,.slice none 0 0,qFc 0]):=.of
instance:StF qFj 209 [(0,1),(1,1)] (.agg #[qFc 0,qFc 0]):=.of
instance:StF qFj 247 [(0,1),(1,2)] (.agg #[qFc 0,qFc 0,.slice none 0 0]):=.of
instance:StF qFj 263 [(0,2),(2,1)] (.agg #[qFc 0,.slice none 0 0,qFc 0]):=.of
instance st299:StF qFj 299 [(0,2)] (.agg #[qFc 0,.slice none 0 0]):=.of
instance:StF qFj 302 [(0,2),(2,1)] (.agg #[qFc 0,.slice none 0 0,qFc 0]):=.of
instance:StF qFj 310 [] (.agg #[]):=.of
instance:StF qFj 316 [(0,2),(2,1)] (.agg #[qFc 0,.slice none 0 0,.bool false]):=.of
instance:StF qFj 359 [(0,1),(1,1)] (.agg #[qFc 0,.bool false]):=.of
instance:StF qFj 363 [(0,1),(1,1),(2,1)] (.agg #[.slice none 0 0,.bool false,qFc 0]):=.of
instance se63:StE2 qFj 63 .i64 .i64:=⟨_,_,underlying63,by kernel_rfl,by kernel_rfl,by decide,by decide,rfl,rfl,underlying3,underlying3⟩
instance:StE3 qFj 26 .i64 .i64 .i64:=⟨_,_,_,underlying26,by kernel_rfl,by kernel_rfl,by decide,by decide,by decide,rfl,rfl,rfl,underlying3,underlying3,underlying3⟩
theorem mixed:qFj.follows .mixedOrders=true:=by kernel_rfl
instance:EnC qFj 10:=.of func10
instance:EnC qFj 11:=.of func11
instance:EnC qFj 13:=.of func13
instance:EnC qFj 14:=.of func14
instance:EnC qFj 16:=.of func16
instance:EnC qFj 19:=.of func19
instance:EnC qFj 20:=.of func20
instance:EnC qFj 21:=.of func21
instance:EnC qFj 22:=.of func22
instance:EnC qFj 23:=.of func23
instance:EnC qFj 24:=.of func24
instance:EnC qFj 25:=.of func25
instance:EnC qFj 26:=.of func26
instance:EnC qFj 28:=.of func28
instance:EnC qFj 43:=.of func43
instance:EnC qFj 44:=.of func44
instance:EnC qFj 46:=.of func46
instance:EnC qFj 49:=.of func49
instance:EnC qFj 58:=.of func58
instance:EnC qFj 59:=.of func59
instance:EnC qFj 60:=.of func60
instance:EnC qFj 61:=.of func61
instance:EnC qFj 62:=.of func62
instance:EnC qFj 63:=.of func63
instance:EnC qFj 64:=.of func64
instance:EnC qFj 65:=.of func65
instance:EnC qFj 66:=.of func66
instance:EnC qFj 67:=.of func67
instance:EnC qFj 68:=.of func68
instance:EnC qFj 69:=.of func69
instance:EnC qFj 70:=.of func70
instance:EnC qFj 71:=.of func71
instance:EnC qFj 77:=.of func77
instance:EnC qFj 82:=.of func82
instance:EnC qFj 83:=.of func83
instance:EnC qFj 84:=.of func84
instance:EnC qFj 85:=.of func85
instance:EnC qFj 86:=.of func86
instance:EnC qFj 87:=.of func87
instance:EnC qFj 88:=.of func88
instance:EnC qFj 89:=.of func89
instance:EnC qFj 90:=.of func90
instance:EnC qFj 91:=.of func91
instance:EnC qFj 92:=.of func92
instance:EnC qFj 93:=.of func93
instance:EnC qFj 94:=.of func94
instance:EnC qFj 95:=.of func95
instance:EnC qFj 96:=.of func96
instance:EnC qFj 97:=.of func97
instance:EnC qFj 98:=.of func98
instance:EnC qFj 99:=.of func99
instance:EnC qFj 100:=.of func100
instance:EnC qFj 113:=.of func113
instance:EnC qFj 114:=.of func114
instance:EnC qFj 115:=.of func115
instance:EnC qFj 116:=.of func116
instance:EnC qFj 117:=.of func117
instance:EnC qFj 118:=.of func118
instance:EnC qFj 119:=.of func119
instance:EnC qFj 120:=.of func120
instance:EnC qFj 121:=.of func121
instance:EnC qFj 122:=.of func122
instance:EnC qFj 123:=.of func123
instance:EnC qFj 124:=.of func124
instance:EnC qFj 125:=.of func125
instance:EnC qFj 126:=.of func126
instance:EnC qFj 127:=.of func127
instance:EnC qFj 128:=.of func128
instance:EnC qFj 129:=.of func129
instance:EnC qFj 130:=.of func130
instance:EnC qFj 131:=.of func131
instance:EnC qFj 132:=.of func132
instance:EnC qFj 133:=.of func133
instance:EnC qFj 134:=.of func134
instance:EnC qFj 135:=.of func135
instance:EnC qFj 136:=.of func136
instance:EnC qFj 148:=.of func148
instance:EnC qFj 158:=.of func158
instance:EnC qFj 159:=.of func159
instance:EnC qFj 160:=.of func160
instance:EnC qFj 161:=.of func161
instance:EnC qFj 162:=.of func162
instance:EnC qFj 163:=.of func163
instance:EnC qFj 164:=.of func164
instance:EnC qFj 165:=.of func165
instance:EnC qFj 166:=.of func166
instance:EnC qFj 167:=.of func167
instance:EnC qFj 168:=.of func168
instance:EnC qFj 169:=.of func169
instance:EnC qFj 170:=.of func170
instance:EnC qFj 171:=.of func171
instance:EnC qFj 173:=.of func173
instance:EnC qFj 174:=.of func174
instance:EnC qFj 175:=.of func175
instance:EnC qFj 176:=.of func176
instance:EnC qFj 179:=.of func179
instance:EnC qFj 180:=.of func180
instance:EnC qFj 190:=.of func190
instance:EnC qFj 191:=.of func191
instance:EnC qFj 192:=.of func192
instance:EnC qFj 193:=.of func193
instance:EnC qFj 194:=.of func194
instance:EnC qFj 195:=.of func195
instance:EnC qFj 196:=.of func196
instance:EnC qFj 197:=.of func197
instance:EnC qFj 198:=.of func198
instance:EnC qFj 199:=.of func199
instance:EnC qFj 200:=.of func200
instance:EnC qFj 201:=.of func201
instance:EnC qFj 204:=.of func204
instance:EnC qFj 205:=.of func205
instance:EnC qFj 212:=.of func212
instance:EnC qFj 216:=.of func216
instance:EnC qFj 230:=.of func230
instance:EnC qFj 231:=.of func231
instance:EnC qFj 232:=.of func232
instance:EnC qFj 233:=.of func233
instance:EnC qFj 234:=.of func234
instance:EnC qFj 235:=.of func235
instance:EnC qFj 236:=.of func236
instance:EnC qFj 237:=.of func237
instance:EnC qFj 238:=.of func238
instance:EnC qFj 239:=.of func239
instance:EnC qFj 240:=.of func240
instance:EnC qFj 241:=.of func241
instance:EnC qFj 242:=.of func242
instance:EnC qFj 243:=.of func243
instance:EnC qFj 244:=.of func244
instance:EnC qFj 245:=.of func245
instance:EnC qFj 246:=.of func246
instance:EnC qFj 247:=.of func247
instance:EnC qFj 248:=.of func248
instance:EnC qFj 258:=.of func258
instance:EnC qFj 259:=.of func259
instance:EnC qFj 260:=.of func260
instance:EnC qFj 261:=.of func261
instance:EnC qFj 262:=.of func262
instance:EnC qFj 263:=.of func263
instance:EnC qFj 264:=.of func264
instance:EnC qFj 265:=.of func265
instance:EnC qFj 266:=.of func266
instance:EnC qFj 267:=.of func267
instance:EnC qFj 268:=.of func268
instance:EnC qFj 269:=.of func269
instance:EnC qFj 270:=.of func270
instance:EnC qFj 271:=.of func271
instance:EnC qFj 272:=.of func272
instance:EnC qFj 273:=.of func273
instance:EnC qFj 274:=.of func274
instance:EnC qFj 275:=.of func275
instance:EnC qFj 276:=.of func276
instance:EnC qFj 277:=.of func277
instance:EnC qFj 278:=.of func278
instance:EnC qFj 279:=.of func279
instance:EnC qFj 280:=.of func280
instance:EnC qFj 281:=.of func281
instance:EnC qFj 284:=.of func284
instance:EnC qFj 285:=.of func285
instance:EnC qFj 286:=.of func286
instance:EnC qFj 287:=.of func287
instance:EnC qFj 288:=.of func288
instance:EnC qFj 289:=.of func289
instance:EnC qFj 290:=.of func290
instance:EnC qFj 291:=.of func291
instance:EnC qFj 292:=.of func292
instance:EnC qFj 293:=.of func293
instance:EnC qFj 294:=.of func294
instance:EnC qFj 295:=.of func295
instance:EnC qFj 296:=.of func296
instance:EnC qFj 297:=.of func297
instance:EnC qFj 298:=.of func298
instance:EnC qFj 299:=.of func299
instance:EnC qFj 300:=.of func300
instance:EnC qFj 301:=.of func301
instance:EnC qFj 302:=.of func302
instance:EnC qFj 303:=.of func303
instance:EnC qFj 304:=.of func304
instance:EnC qFj 305:=.of func305
instance:EnC qFj 306:=.of func306
instance:EnC qFj 307:=.of func307
theorem qyN (v:Value)(w:World):(Instr.makeInterface 310 v).run qFj w=.ok (.iface 310 v) w:=by simp[Instr.makeInterface,run_underlying underlying310]
abbrev lostCh:List PanicEntry:=[{ v:=.iface 310 (.agg #[]),recovered:=false }]
theorem qyI (p q:Addr):qmM qFj 243 #[.pointer (some p),.pointer (some q)]:=by
  intro w
  refine callsD_of_wpS func243 rfl fun c₀ cs hu=>?_
  apply wpS_seq
  apply wpS_region
  simp[wpOpsS,go_sem,recoverD,hu,ntmps243,Exit.thenS]
  refine wpS_of_wp ?_
  go_wp2
  cases c₀
  simp_all [bodyPostS,results,Tryz.results243]
theorem quc (w:World):(Instr.typeAssert (.iface 310 (.agg #[])) 20 310 true).run qFj w=.ok (.tuple #[.agg #[],.bool true]) w:=by
  simp[Instr.typeAssert,run_underlying underlying310]
theorem eqn243 (x y:Operand)(w:World):(do eqGuard .eql 20 x y (.iface 310 (.agg #[])) .nilIface;binOp .eql 20 (.iface 310 (.agg #[])) .nilIface:Sem Value).run qFj w=.ok (.bool false) w:=by
  simp[go_sem]
set_option maxRecDepth 100000 in
theorem qjA (g1 g2:Nat)(v1 v2:Value):qmN qFj 243 #[qFe g1,qFe g2] 310 (.agg #[]) [⟨g1,56,[v1]⟩,⟨g2,4,[v2]⟩] [⟨g1,56,[.slice none 0 0]⟩,⟨g2,4,[.bool false]⟩]:=by
  intro w hp
  refine callsD_of_wpS func243 rfl fun c₀ cs hu=>?_
  apply wpS_seq
  apply wpS_region
  simp[wpOpsS,go_sem,recoverD,hu,ntmps243,Exit.thenS]
  refine wpS_of_wp (qhP.1 ?_)
  refine (show SXC qFj none 11 [] (muts [⟨g1,56,[v1]⟩,⟨g2,4,[v2]⟩] []) w _ _ [(0,.pointer (some ⟨g1,0,none⟩)),(1,.pointer (some ⟨g2,0,none⟩)),(5,.iface 310 (.agg #[]))] [⟨g1,56,[v1]⟩,⟨g2,4,[v2]⟩] [] [] (some ()) () from ?_) rfl _ _ ⟨rfl,by simp,fun i v hv=>?_⟩ hp
  · refine qg3 ?_
    refine kD ?_
    refine qW ?_
    refine qqN rfl rfl rfl (eqn243 _ _) rfl ?_
    refine zK ?_
    refine zF ?_
    refine yh (b:=false) rfl (fun h=>by cases h) (fun _=>?_)
    refine kD ?_
    refine qW ?_
    refine qoT rfl rfl quc rfl ?_
    refine qaM rfl rfl rfl rfl ?_
    refine qaM rfl rfl rfl rfl ?_
    refine zK ?_
    refine zF ?_
    refine yh (b:=true) rfl (fun _=>?_) (fun h=>by cases h)
    refine kD ?_
    refine qW ?_
    refine qkw rfl tf310 rfl (fun g=>?_)
    refine kP (i:=0) rfl rfl rfl tf310 rfl rfl rfl rfl rfl ?_
    refine zK ?_
    refine zF ?_
    refine qW ?_
    refine kP (i:=1) rfl rfl rfl tf56 rfl rfl rfl rfl rfl ?_
    refine kP (i:=2) rfl rfl rfl tf4 rfl rfl rfl rfl rfl ?_
    refine zK ?_
    refine qeL ?_
    intro _ a w' hf hp'
    exact ⟨hf.defers,_,rfl,_,results_none rfl _ _ _,rfl,rfl,hp'.pick (.cons 1 rfl (.cons 1 rfl .nil)) .nil (by simp)⟩
  · simp only[qaD] at hv
    split at hv
    · rename_i h;subst h;simpa using hv
    · split at hv
      · rename_i h;subst h;simpa using hv
      · split at hv
        · rename_i h;subst h;simpa using hv
        · cases hv
theorem qr0 (cb:Array Value):qn2 qFj 160 118 2 (fun l=>.agg l.toArray) cb :=
  quR fun _ _ enc hk h1 cf hO blk cap d w hc hH hb hsz hT=>Go.Proofs.AnyQ.slices_SortFunc_total Tryz.sortf160 2 tf63.run_isAgg tf63.run_size enc hk h1 cf hO 118 cb blk 0 cap d w EnC.e hc hH hb hsz hT
instance:UnF qFj 2 (.int .i64):=⟨underlying2⟩
instance:UnF qFj 3 (.int .i64):=⟨underlying3⟩
instance:UnF qFj 4 .bool:=⟨underlying4⟩
instance:UnF qFj 5 (.int .u8):=⟨underlying5⟩
instance:UnF qFj 9 .string:=⟨underlying9⟩
instance:UnF qFj 22 (.slice 56):=⟨underlying22⟩
instance:UnF qFj 39 (.slice 9):=⟨underlying39⟩
instance:UnF qFj 41 (.slice 5):=⟨underlying41⟩
instance:UnF qFj 56 (.slice 3):=⟨underlying56⟩
instance:UnF qFj 58 (.slice 63):=⟨underlying58⟩
instance:UnF qFj 119 (.int .u64):=⟨underlying119⟩
instance:UnF qFj 196 (.int .u64):=⟨underlying196⟩
instance:UnF qFj 199 (.int .u32):=⟨underlying199⟩
instance:UnF qFj 204 (.slice 209):=⟨underlying204⟩
instance:UnF qFj 211 (.slice 119):=⟨underlying211⟩
theorem stm (c:Nat)(q:List Nat){p:List Nat}{A:Prop}(h:Stp (q++p) A):Stp (c::p) A:=⟨h.go⟩
set_option maxRecDepth 100000 in
theorem au0 (p:List Nat){A B:Prop}(t:B→Stp p A:=by
  intro h
  repeat (first
    | exact stp0 h
    | (refine stc 39 ?_;refine stk (fun h=>h) ?_;try dsimp only)
    | (refine stc 0 ?_;refine stk (fun h=>zK h) ?_)
    | (refine stc 1 ?_;refine stk (fun h=>kD h) ?_)
    | (refine stc 2 ?_;refine stk (fun h=>zF h) ?_)
    | (refine stc 3 ?_;refine stk (fun h=>qW h) ?_)
    | (refine stc 4 ?_;refine stk (fun h=>q9 rfl rfl rfl h) ?_)
    | (refine stc 5 ?_;refine stk (fun h=>kO rfl rfl rfl h) ?_)
    | (refine stc 6 ?_;refine qjK rfl rfl rfl (zC rfl) ?_)
    | (refine stc 7 ?_;refine stk (fun h=>qxM rfl rfl rfl h) ?_)
    | (refine stc 8 ?_;refine stk (fun h=>qoS h) ?_)
    | (refine stc 9 ?_;refine stk (fun h=>qY rfl rfl inferInstance rfl h) ?_)
    | (refine stc 10 ?_;refine stk (fun h=>qkv rfl (And.left h) (And.right h)) ?_)
    | (refine stc 11 ?_;refine stk (fun h=>qh5 h) ?_)
    | (refine stc 12 ?_;refine stk (fun h=>qvd h) ?_)
    | (refine stc 13 ?_;refine qzd rfl (by kernel_rfl) rfl ?_)
    | (refine stc 14 ?_;refine stk (fun h=>qg3 h) ?_)
    | (refine stc 15 ?_;refine qjK rfl rfl rfl (zi rfl inferInstance) ?_)
    | (refine stc 16 ?_;refine stk (fun h=>qg1 (by kernel_rfl) h) ?_)
    | (refine stc 17 ?_;refine stk (fun h=>qkB h) ?_)
    | (refine stc 18 ?_;refine stk (fun h=>zX (i:=0) rfl rfl inferInstance rfl rfl (fun _=>rfl) rfl rfl h) ?_)
    | (refine stc 19 ?_;refine stk (fun h=>qkA h) ?_)
    | (refine stc 20 ?_;refine qzc rfl rfl rfl ?_)
    | (refine stc 21 ?_;refine stk (fun h=>kP (i:=0) rfl rfl rfl inferInstance rfl rfl rfl rfl rfl h) ?_)
    | (refine stc 22 ?_;refine stk (fun h=>qaM rfl rfl rfl rfl h) ?_)
    | (refine stc 23 ?_;refine stk (fun h=>qzk rfl rfl rfl h) ?_)
    | (refine stc 24 ?_;first
      | (refine sta 0 ?_;refine stk (fun h=>qk2 rfl rfl rfl rfl h) ?_)
      | (refine sta 1 ?_;exact stz (qy ()))
      | (refine sta 2 ?_;refine stk (fun h=>qeL h) ?_)
      | (refine sta 3 ?_;refine stk (fun h=>qoX rfl rfl rfl rfl h) ?_)
      | (refine sta 4 ?_;refine stk (fun h=>qoW rfl UnF.u rfl rfl h) ?_)
      | (refine sta 5 ?_;refine stk (fun h=>qxO h) ?_)
      | (refine sta 6 ?_;refine stk (fun h=>qkw rfl inferInstance rfl h) ?_)
      | (refine sta 7 ?_;exact stz (qvb))
      | (refine sta 8 ?_;refine stk (fun h=>qxq h) ?_)
      | (refine sta 9 ?_;refine stk (fun h=>zX (i:=0) rfl rfl inferInstance rfl rfl (by simp) rfl rfl h) ?_)
      | (refine sta 10 ?_;refine stk (fun h=>km rfl rfl rfl h) ?_)
      | (refine sta 11 ?_;refine stk (fun h=>qqR (b:=true) rfl rfl rfl rfl h) ?_)
      | (refine sta 12 ?_;refine stk (fun h=>qqR (b:=false) rfl rfl rfl rfl h) ?_)
      | (refine sta 13 ?_;refine stk (fun h=>qqG h) ?_)
      | (refine sta 14 ?_;refine stk (fun h=>qqS h) ?_)
      | (refine sta 15 ?_;refine qjJ rfl rfl rfl (qA (i:=0) rfl inferInstance rfl rfl (fun _=>rfl) rfl) ?_))
    | (refine stc 25 ?_;first
      | (refine sta 0 ?_;refine stk (fun h=>qxp h) ?_)
      | (refine sta 1 ?_;refine stk (fun h=>qzv rfl rfl rfl rfl h) ?_)
      | (refine sta 2 ?_;refine stk (fun h=>qtT rfl rfl rfl rfl h) ?_)
      | (refine sta 3 ?_;refine stk (fun h=>qii (j:=0) rfl rfl inferInstance rfl rfl (fun _=>rfl) rfl rfl h) ?_)
      | (refine sta 4 ?_;refine stk (fun h=>zM [0] [0] h) ?_)
      | (refine sta 5 ?_;refine stk (fun h=>kP (i:=1) rfl rfl rfl inferInstance rfl rfl rfl rfl rfl h) ?_)
      | (refine sta 6 ?_;refine stk (fun h=>qtS rfl rfl rfl rfl h) ?_)
      | (refine sta 7 ?_;refine stk (fun h=>qzw rfl rfl rfl h) ?_)
      | (refine sta 8 ?_;refine stk (fun h=>qfZ Int (eI .i64) 3 1 h) ?_)
      | (refine sta 9 ?_;refine stk (fun h=>qtW rfl rfl rfl rfl h) ?_)
      | (refine sta 10 ?_;refine stk (fun h=>zX (i:=1) rfl rfl inferInstance rfl rfl (by simp) rfl rfl h) ?_)
      | (refine sta 11 ?_;refine stk (fun h=>qxz rfl UnF.u UnF.u rfl rfl h) ?_)
      | (refine sta 12 ?_;refine stk (fun h=>zX (i:=1) rfl rfl inferInstance rfl rfl (fun _=>rfl) rfl rfl h) ?_)
      | (refine sta 13 ?_;refine stk (fun h=>qvc h) ?_)
      | (refine sta 14 ?_;exact stz (qM ()))
      | (refine sta 15 ?_;refine stk (fun h=>zX (i:=2) rfl rfl inferInstance rfl rfl (fun _=>rfl) rfl rfl h) ?_))
    | (refine stc 26 ?_;first
      | (refine sta 0 ?_;refine stk (fun h=>qfZ Int (eI .u8) 5 1 h) ?_)
      | (refine sta 1 ?_;refine stk (fun h=>qxJ (qD .i64) rfl UnF.u inferInstance rfl rfl rfl rfl rfl rfl rfl h) ?_)
      | (refine sta 2 ?_;refine stk (fun h=>ja (j:=0) (qD .i64) (by decide) rfl UnF.u inferInstance rfl rfl rfl rfl h) ?_)
      | (refine sta 3 ?_;refine stk (fun h=>qBl (And.left h) (And.right h)) ?_)
      | (refine sta 4 ?_;refine stk (fun h=>qzn rfl rfl rfl rfl h) ?_)
      | (refine sta 5 ?_;refine stk (fun h=>qcX (j:=0) rfl UnF.u inferInstance rfl rfl rfl rfl h) ?_)
      | (refine sta 6 ?_;refine stk (fun h=>zX (i:=2) rfl rfl inferInstance rfl rfl (by simp) rfl rfl h) ?_)
      | (refine sta 7 ?_;exact stz (qa ((),())))
      | (refine sta 8 ?_;refine qjJ rfl rfl rfl (qA (i:=1) rfl inferInstance rfl rfl (fun _=>rfl) rfl) ?_)
      | (refine sta 9 ?_;refine stk (fun h=>qxr h) ?_)
      | (refine sta 10 ?_;refine stk (fun h=>qge Int (eI .i64) 3 1 h) ?_)
      | (refine sta 11 ?_;refine stk (fun h=>qzm h) ?_)
      | (refine sta 12 ?_;refine stk (fun h=>qxH h) ?_)
      | (refine sta 13 ?_;refine stk (fun h=>zM [1] [0] h) ?_)
      | (refine sta 14 ?_;refine stk (fun h=>zM [2] [0] h) ?_)
      | (refine sta 15 ?_;refine stk (fun h=>zM [1,1] [0] h) ?_))
    | (refine stc 27 ?_;first
      | (refine sta 0 ?_;refine stk (fun h=>qxQ (qFa) (qFb×Nat) eN56 rN56 56 1 h) ?_)
      | (refine sta 1 ?_;refine stk (fun h=>kP (i:=6) rfl rfl rfl inferInstance rfl rfl rfl rfl rfl h) ?_)
      | (refine sta 2 ?_;refine stk (fun h=>qi0 (j:=0) qq (by decide) rfl UnF.u inferInstance rfl rfl rfl rfl h) ?_)
      | (refine sta 3 ?_;refine stk (fun h=>qjO rfl rfl rfl rfl rfl h) ?_)
      | (refine sta 4 ?_;refine stk (fun h=>qd qgQ h) ?_)
      | (refine sta 5 ?_;refine stk (fun h=>qoY rfl rfl rfl h) ?_)
      | (refine sta 6 ?_;refine stk (fun h=>qr9 0 rfl h) ?_)
      | (refine sta 7 ?_;refine stk (fun h=>qqF 0 qI rfl h) ?_)
      | (refine sta 8 ?_;refine stk (fun h=>qu qja h) ?_)
      | (refine sta 9 ?_;refine stk (fun h=>kP (i:=2) rfl rfl rfl inferInstance rfl rfl rfl rfl rfl h) ?_)
      | (refine sta 10 ?_;refine stk (fun h=>qc (.cons 0 rfl (.cons 1 rfl .nil)) (qh 0 rfl (qgV 1 rfl qg)) h) ?_)
      | (refine sta 11 ?_;refine stk (fun h=>qzs rfl rfl rfl rfl h) ?_)
      | (refine sta 12 ?_;refine stk (fun h=>qd8 Int (eI .i64) 3 1 h) ?_)
      | (refine sta 13 ?_;refine stk (fun h=>qmK rfl rfl rfl h) ?_)
      | (refine sta 14 ?_;refine stk (fun h=>zM [1] [0,1,2] h) ?_)
      | (refine sta 15 ?_;exact stz (qkz (.cons 0 rfl .nil))))
    | (refine stc 28 ?_;first
      | (refine sta 0 ?_;refine stk (fun h=>qK [] [1,1] [0,1,2] 8 h) ?_)
      | (refine sta 1 ?_;refine stk (fun h=>zM [1,1] [0,1,2] h) ?_)
      | (refine sta 2 ?_;refine stk (fun h=>qd qmr h) ?_)
      | (refine sta 3 ?_;refine qjK rfl rfl rfl (qBv UnF.u rfl) ?_)
      | (refine sta 4 ?_;refine stk (fun h=>qfW (j:=1) (qD .i64) (by decide) rfl h) ?_)
      | (refine sta 5 ?_;refine stk (fun h=>qzo rfl rfl rfl rfl h) ?_)
      | (refine sta 6 ?_;refine stk (fun h=>qzi h) ?_)
      | (refine sta 7 ?_;refine stk (fun h=>qxs h) ?_)
      | (refine sta 8 ?_;refine stk (fun h=>qxN h) ?_)
      | (refine sta 9 ?_;refine stk (fun h=>qzj rfl rfl rfl rfl h) ?_)
      | (refine sta 10 ?_;refine stk (fun h=>qzq rfl rfl rfl rfl h) ?_)
      | (refine sta 11 ?_;refine stk (fun h=>qcX (j:=1) rfl UnF.u inferInstance rfl rfl rfl rfl h) ?_)
      | (refine sta 12 ?_;refine qjJ rfl rfl rfl (qA (i:=2) rfl inferInstance rfl rfl (fun _=>rfl) rfl) ?_)
      | (refine sta 13 ?_;refine stk (fun h=>zX (i:=3) rfl rfl inferInstance rfl rfl (fun _=>rfl) rfl rfl h) ?_)
      | (refine sta 14 ?_;refine stk (fun h=>qd qq1 h) ?_)
      | (refine sta 15 ?_;refine stk (fun h=>qu qit h) ?_))
    | (refine stc 29 ?_;first
      | (refine sta 0 ?_;refine stk (fun h=>zL [-1] h) ?_)
      | (refine sta 1 ?_;refine stk (fun h=>ja (j:=1) (qD .i64) (by decide) rfl UnF.u inferInstance rfl rfl rfl rfl h) ?_)
      | (refine sta 2 ?_;refine stk (fun h=>qqI (j:=1) rfl h) ?_)
      | (refine sta 3 ?_;refine stk (fun h=>qii (j:=0) rfl rfl inferInstance rfl rfl (by simp) rfl rfl h) ?_)
      | (refine sta 4 ?_;refine stk (fun h=>qfW (j:=2) (qD .i64) (by decide) rfl h) ?_)
      | (refine sta 5 ?_;refine stk (fun h=>qd qt7 h) ?_)
      | (refine sta 6 ?_;refine stk (fun h=>zM [0,0,0,0,0] [0] h) ?_)
      | (refine sta 7 ?_;refine stk (fun h=>qge Int (eI .u8) 5 1 h) ?_)
      | (refine sta 8 ?_;refine stk (fun h=>kZ 24 rfl (by kernel_rfl) (.cons 0 rfl (.cons 1 rfl .nil)) h) ?_)
      | (refine sta 9 ?_;refine stk (fun h=>qBk (And.left h) (And.right h)) ?_)
      | (refine sta 10 ?_;refine stk (fun h=>qd qnW h) ?_)
      | (refine sta 11 ?_;refine stk (fun h=>qzr (rin:=rN56) (y:=([]:qFa)) (q:=((none,0):qFb×Nat)) qq (by decide) qwV rfl UnF.u inferInstance rfl rfl rfl rfl rfl rfl h) ?_)
      | (refine sta 12 ?_;refine stk (fun h=>qqI (j:=0) rfl h) ?_)
      | (refine sta 13 ?_;exact stz (qxw))
      | (refine sta 14 ?_;exact stz (kq (none,0,([]:List (qFb×Nat))) 0))
      | (refine sta 15 ?_;refine stk (fun h=>qfW (j:=0) (qD .i64) (by decide) rfl h) ?_))
    | (refine stc 30 ?_;first
      | (refine sta 0 ?_;refine stk (fun h=>qce (j:=0) rfl h) ?_)
      | (refine sta 1 ?_;refine stk (fun h=>qu0 (And.left h) (And.right h)) ?_)
      | (refine sta 2 ?_;refine stk (fun h=>kP (i:=3) rfl rfl rfl inferInstance rfl rfl rfl rfl rfl h) ?_)
      | (refine sta 3 ?_;refine stk (fun h=>qd qnL h) ?_)
      | (refine sta 4 ?_;refine stk (fun h=>zM [1,1] [0,1,2,3] h) ?_)
      | (refine sta 5 ?_;refine stk (fun h=>zM [0,0] [0] h) ?_)
      | (refine sta 6 ?_;refine stk (fun h=>qu qpo h) ?_)
      | (refine sta 7 ?_;refine stk (fun h=>qik (i:=3) rfl h) ?_)
      | (refine sta 8 ?_;refine stk (fun h=>qd qkQ h) ?_)
      | (refine sta 9 ?_;refine stk (fun h=>zM [0,0] [] h) ?_)
      | (refine sta 10 ?_;refine stk (fun h=>qu qiB h) ?_)
      | (refine sta 11 ?_;refine stk (fun h=>qu qpf h) ?_)
      | (refine sta 12 ?_;refine stk (fun h=>qd8 Int (eI .u8) 5 1 h) ?_)
      | (refine sta 13 ?_;refine stk (fun h=>qd qnP h) ?_)
      | (refine sta 14 ?_;refine stk (fun h=>qd qpg h) ?_)
      | (refine sta 15 ?_;refine stk (fun h=>qd qgh h) ?_))
    | (refine stc 31 ?_;first
      | (refine sta 0 ?_;refine stk (fun h=>zM [0] [0,1] h) ?_)
      | (refine sta 1 ?_;refine stk (fun h=>zM [0,0,0] [0,1,2,3] h) ?_)
      | (refine sta 2 ?_;refine stk (fun h=>qd qnF h) ?_)
      | (refine sta 3 ?_;refine stk (fun h=>qxE rfl UnF.u rfl rfl rfl h) ?_)
      | (refine sta 4 ?_;refine stk (fun h=>zD 0 (qD .i64) rfl UnF.u inferInstance rfl rfl rfl rfl rfl (.inr ⟨0,rfl⟩) rfl rfl h) ?_)
      | (refine sta 5 ?_;refine stk (fun h=>qd qg6 h) ?_)
      | (refine sta 6 ?_;refine stk (fun h=>qxF (j:=0) rfl UnF.u inferInstance rfl rfl rfl rfl h) ?_)
      | (refine sta 7 ?_;refine stk (fun h=>qu qhz h) ?_)
      | (refine sta 8 ?_;refine stk (fun h=>ja (j:=0) qeu (by decide) rfl UnF.u inferInstance rfl rfl rfl rfl h) ?_)
      | (refine sta 9 ?_;refine stk (fun h=>qc .nil (qh 0 rfl (qh 1 rfl (qh 2 rfl (qgV 0 rfl qg)))) h) ?_)
      | (refine sta 10 ?_;refine stk (fun h=>qo0 rfl rfl rfl rfl rfl h) ?_)
      | (refine sta 11 ?_;refine stk (fun h=>zX (i:=3) rfl rfl inferInstance rfl rfl (by simp) rfl rfl h) ?_)
      | (refine sta 12 ?_;refine stk (fun h=>qd qjf h) ?_)
      | (refine sta 13 ?_;refine stk (fun h=>qc .nil (qgV 0 rfl qg) h) ?_)
      | (refine sta 14 ?_;refine stk (fun h=>qd qeB h) ?_)
      | (refine sta 15 ?_;refine qjJ rfl rfl rfl (qA (i:=3) rfl inferInstance rfl rfl (fun _=>rfl) rfl) ?_))
    | (refine stc 32 ?_;first
      | (refine sta 0 ?_;refine stk (fun h=>ja (j:=0) qgT (by decide) rfl UnF.u inferInstance rfl rfl rfl rfl h) ?_)
      | (refine sta 1 ?_;refine stk (fun h=>qxt h) ?_)
      | (refine sta 2 ?_;refine stk (fun h=>qu qq7 h) ?_)
      | (refine sta 3 ?_;exact stz (kq (none,0) 1))
      | (refine sta 4 ?_;refine stk (fun h=>qd qnD h) ?_)
      | (refine sta 5 ?_;refine stk (fun h=>kx 0 _ rfl rfl rfl (zC rfl) rfl h) ?_)
      | (refine sta 6 ?_;refine stk (fun h=>kx 1 _ rfl rfl rfl (zC rfl) rfl h) ?_)
      | (refine sta 7 ?_;refine stk (fun h=>kx 2 _ rfl rfl rfl (zi rfl inferInstance) rfl h) ?_)
      | (refine sta 8 ?_;refine stk (fun h=>kx 4 _ rfl rfl rfl (zC rfl) rfl h) ?_)
      | (refine sta 9 ?_;refine stk (fun h=>zM [0,0,0,0] [0] h) ?_)
      | (refine sta 10 ?_;refine stk (fun h=>zM [0,0] [0,1] h) ?_)
      | (refine sta 11 ?_;refine stk (fun h=>qu5 rfl UnF.u rfl rfl rfl h) ?_)
      | (refine sta 12 ?_;refine stk (fun h=>yh rfl (And.left h) (And.right h)) ?_)
      | (refine sta 13 ?_;refine stk (fun h=>qK [] [0,0] [0,1,2] 8 h) ?_)
      | (refine sta 14 ?_;refine stk (fun h=>qd qg5 h) ?_)
      | (refine sta 15 ?_;refine stk (fun h=>quX 0 rfl h) ?_))
    | (refine stc 33 ?_;first
      | (refine sta 0 ?_;refine stk (fun h=>qu qgg h) ?_)
      | (refine sta 1 ?_;refine stk (fun h=>qu qpi h) ?_)
      | (refine sta 2 ?_;refine stk (fun h=>qu qip h) ?_)
      | (refine sta 3 ?_;refine stk (fun h=>qik (i:=2) rfl h) ?_)
      | (refine sta 4 ?_;refine stk (fun h=>qge (Int×Int) eS63 63 2 h) ?_)
      | (refine sta 5 ?_;refine stk (fun h=>qd qi5 h) ?_)
      | (refine sta 6 ?_;exact stz (kq (none,0,([]:List (qFb×Nat))) 1))
      | (refine sta 7 ?_;refine stk (fun h=>qJ [] h) ?_)
      | (refine sta 8 ?_;refine stk (fun h=>qu qdR h) ?_)
      | (refine sta 9 ?_;refine stk (fun h=>qu kU h) ?_)
      | (refine sta 10 ?_;refine stk (fun h=>qd qmq h) ?_)
      | (refine sta 11 ?_;refine stk (fun h=>zM [0] [0,1,2,3] h) ?_)
      | (refine sta 12 ?_;refine stk (fun h=>qzx rfl rfl rfl rfl rfl h) ?_)
      | (refine sta 13 ?_;refine qjK rfl rfl rfl (qzN UnF.u UnF.u rfl) ?_)
      | (refine sta 14 ?_;refine stk (fun h=>qu qq2 h) ?_)
      | (refine sta 15 ?_;refine stk (fun h=>qu qi4 h) ?_))
    | (refine stc 34 ?_;first
      | (refine sta 0 ?_;refine stk (fun h=>zX (i:=4) rfl rfl inferInstance rfl rfl (fun _=>rfl) rfl rfl h) ?_)
      | (refine sta 1 ?_;refine stk (fun h=>qd qpv h) ?_)
      | (refine sta 2 ?_;refine stk (fun h=>qd qpn h) ?_)
      | (refine sta 3 ?_;refine stk (fun h=>kZ 18 rfl (by kernel_rfl) (.cons 0 rfl .nil) h) ?_)
      | (refine sta 4 ?_;refine stk (fun h=>qd qj2 h) ?_)
      | (refine sta 5 ?_;refine stk (fun h=>qu qjh h) ?_)
      | (refine sta 6 ?_;refine stk (fun h=>qd qiL h) ?_)
      | (refine sta 7 ?_;refine stk (fun h=>qik (i:=4) rfl h) ?_)
      | (refine sta 8 ?_;refine stk (fun h=>qij rfl rfl rfl rfl rfl h) ?_)
      | (refine sta 9 ?_;refine stk (fun h=>qzy rfl rfl rfl rfl h) ?_)
      | (refine sta 10 ?_;refine stk (fun h=>qd qmC h) ?_)
      | (refine sta 11 ?_;refine stk (fun h=>qd qk9 h) ?_)
      | (refine sta 12 ?_;exact stz (kq (none,0) 0))
      | (refine sta 13 ?_;refine stk (fun h=>qmd 2 rfl h) ?_)
      | (refine sta 14 ?_;refine stk (fun h=>qd qq8 h) ?_)
      | (refine sta 15 ?_;refine stk (fun h=>qu qiP h) ?_))
    | (refine stc 35 ?_;first
      | (refine sta 0 ?_;refine stk (fun h=>qd qpr h) ?_)
      | (refine sta 1 ?_;refine stk (fun h=>zM [0,0] [0,1,2,3] h) ?_)
      | (refine sta 2 ?_;refine stk (fun h=>qK [] [0,0,0] [0] 15 h) ?_)
      | (refine sta 3 ?_;refine stk (fun h=>qu qmt h) ?_)
      | (refine sta 4 ?_;refine stk (fun h=>qK [] [0] [0,1,2] 17 h) ?_)
      | (refine sta 5 ?_;refine stk (fun h=>zM [0] [0,1,2] h) ?_)
      | (refine sta 6 ?_;refine stk (fun h=>qd qnK h) ?_)
      | (refine sta 7 ?_;exact stz (kq ((none,0),none,0) 1))
      | (refine sta 8 ?_;refine stk (fun h=>qu qiG h) ?_)
      | (refine sta 9 ?_;refine stk (fun h=>qd qnJ h) ?_)
      | (refine sta 10 ?_;refine stk (fun h=>qd qq6 h) ?_)
      | (refine sta 11 ?_;refine stk (fun h=>qd qpq h) ?_)
      | (refine sta 12 ?_;refine stk (fun h=>qd qnI h) ?_)
      | (refine sta 13 ?_;exact stz (kq ((none,0),(none,0),none,0) 1))
      | (refine sta 14 ?_;refine stk (fun h=>qfW (j:=0) (qD .u8) (by decide) rfl h) ?_)
      | (refine sta 15 ?_;refine stk (fun h=>qd qnZ h) ?_))
    | (refine stc 36 ?_;first
      | (refine sta 0 ?_;refine stk (fun h=>qBm rfl rfl rfl rfl h) ?_)
      | (refine sta 1 ?_;refine stk (fun h=>qd qjb h) ?_)
      | (refine sta 2 ?_;refine stk (fun h=>qd qkW h) ?_)
      | (refine sta 3 ?_;refine stk (fun h=>qzl rfl UnF.u rfl rfl h) ?_)
      | (refine sta 4 ?_;refine stk (fun h=>qqM (i:=0) (qD .i64) rfl UnF.u inferInstance rfl rfl rfl rfl h) ?_)
      | (refine sta 5 ?_;refine stk (fun h=>qd qmy h) ?_)
      | (refine sta 6 ?_;refine stk (fun h=>qiZ 0 rfl h) ?_)
      | (refine sta 7 ?_;refine stk (fun h=>qd qgO h) ?_)
      | (refine sta 8 ?_;exact stz (qkz (.cons 1 rfl .nil)))
      | (refine sta 9 ?_;refine stk (fun h=>kx 5 _ rfl rfl rfl (zC rfl) rfl h) ?_)
      | (refine sta 10 ?_;refine stk (fun h=>kx 6 _ rfl rfl rfl (zC rfl) rfl h) ?_)
      | (refine sta 11 ?_;refine stk (fun h=>kx 7 _ rfl rfl rfl (zC rfl) rfl h) ?_)
      | (refine sta 12 ?_;refine stk (fun h=>kx 8 _ rfl rfl rfl (zi rfl inferInstance) rfl h) ?_)
      | (refine sta 13 ?_;refine stk (fun h=>kx 11 _ rfl rfl rfl (zC rfl) rfl h) ?_)
      | (refine sta 14 ?_;refine stk (fun h=>kx 12 _ rfl rfl rfl (zC rfl) rfl h) ?_)
      | (refine sta 15 ?_;refine stk (fun h=>kx 18 _ rfl rfl rfl (zC rfl) rfl h) ?_))
    | (refine stc 37 ?_;first
      | (refine sta 0 ?_;refine stk (fun h=>zM [0,0,0,0,0] [0,1] h) ?_)
      | (refine sta 1 ?_;refine stk (fun h=>qd qkC h) ?_)
      | (refine sta 2 ?_;refine stk (fun h=>qK [] [] [0,1,2,3] 9 h) ?_)
      | (refine sta 3 ?_;refine stk (fun h=>qu qnS h) ?_)
      | (refine sta 4 ?_;refine stk (fun h=>qd qt9 h) ?_)
      | (refine sta 5 ?_;refine stk (fun h=>qd qpl h) ?_)
      | (refine sta 6 ?_;refine stk (fun h=>qd qmz h) ?_)
      | (refine sta 7 ?_;refine stk (fun h=>qu qi9 h) ?_)
      | (refine sta 8 ?_;refine stk (fun h=>qd qn1 h) ?_)
      | (refine sta 9 ?_;refine stk (fun h=>qd qrd h) ?_)
      | (refine sta 10 ?_;refine stk (fun h=>ja (j:=2) (qD .i64) (by decide) rfl UnF.u inferInstance rfl rfl rfl rfl h) ?_)
      | (refine sta 11 ?_;refine stk (fun h=>qi0 (j:=2) qq (by decide) rfl UnF.u inferInstance rfl rfl rfl rfl h) ?_)
      | (refine sta 12 ?_;refine stk (fun h=>qu qiD h) ?_)
      | (refine sta 13 ?_;refine stk (fun h=>qK [] [0,0,0] [0,1,2,3] 10 h) ?_)
      | (refine sta 14 ?_;refine stk (fun h=>zM [1,0,0] [0,1,2,3] h) ?_)
      | (refine sta 15 ?_;refine stk (fun h=>qK [] [0,0,0] [0,1,2,3] 12 h) ?_))
    | (refine stc 38 ?_;first
      | (refine sta 0 ?_;refine stk (fun h=>kZ 13 rfl (by kernel_rfl) (.cons 1 rfl (.cons 1 rfl .nil)) h) ?_)
      | (refine sta 1 ?_;refine stk (fun h=>qK [] [0,0,0,0,0] [0] 5 h) ?_)
      | (refine sta 2 ?_;refine stk (fun h=>qd qq4 h) ?_)
      | (refine sta 3 ?_;refine stk (fun h=>qK [] [1,1,1,1] [0,1,2] 8 h) ?_)
      | (refine sta 4 ?_;refine stk (fun h=>zM [1,1,1,1] [0,1,2] h) ?_)
      | (refine sta 5 ?_;refine stk (fun h=>qu qiC h) ?_)
      | (refine sta 6 ?_;exact stz (qg4 (none,0,([]:List (qFb×Nat))) 0))
      | (refine sta 7 ?_;refine stk (fun h=>qd qpj h) ?_)
      | (refine sta 8 ?_;refine stk (fun h=>qxL (qFa) (qFb×Nat) eN56 rN56 56 1 h) ?_)
      | (refine sta 9 ?_;refine stk (fun h=>qd qnB h) ?_))
    | apply stm 45 [1,3]
    | apply stm 46 [0,2]
    | apply stm 47 [5,0,2]
    | apply stm 48 [1,3,4]
    | apply stm 49 [5,0,2,8]
    | apply stm 50 [24,5,12]
    | apply stm 51 [24,13,17]
    | apply stm 52 [17,24,14]
    | apply stm 53 [0,24,7]
    | apply stm 54 [16,19]
    | apply stm 55 [24,10,9]
    | apply stm 56 [24,8,1,3]
    | apply stm 57 [11,2]
    | apply stm 58 [5,0,2,8,12]
    | apply stm 59 [5,0,2,1,3,4]
    | apply stm 60 [24,12,0,24,7]
    | apply stm 61 [24,11,0,24,7]
    | apply stm 62 [7,7]
    | apply stm 63 [24,2,2]
    | apply stm 64 [25,0,1,3]
    | apply stm 65 [6,11,16,19]
    | apply stm 66 [24,0,4]
    | apply stm 67 [6,6,6,7]
    | apply stm 68 [5,0,2,8,24,1]
    | apply stm 69 [7,7,7,7]
    | apply stm 70 [6,0,6,1]
    | apply stm 71 [24,13,17,17,24,14]
    | apply stm 72 [0,25,4]
    | apply stm 73 [0,2,14]
    | apply stm 74 [24,4,4]
    | apply stm 75 [5,0,2,8,12,24,1]
    | apply stm 76 [6,8,13,10]
    | apply stm 77 [1,3,24,9]
    | apply stm 78 [9,18]
    | apply stm 79 [22,22]
    | apply stm 80 [5,0,2,1,3]
    | apply stm 81 [5,0,2,1]
    | apply stm 82 [11,2,1]
    | apply stm 83 [11,2,1,14]
    | apply stm 84 [24,4,4,0,2,14]
    | apply stm 85 [21,0]
    | apply stm 86 [5,0,2,8,25,14]
    | apply stm 87 [24,12,0]
    | apply stm 88 [24,11,0]
    | apply stm 89 [4,4]
    | apply stm 90 [24,5,12,12]
    | apply stm 91 [39,1,3,4]
    | apply stm 92 [6,0,6,1,6,2]
    | apply stm 93 [24,0,4,0]
    | apply stm 94 [3,24,0,4,0]
    | apply stm 95 [24,2,2,3,24,0,4,0]
    | apply stm 96 [24,8,1,3,23]
    | apply stm 97 [11,2,1,3]
    | apply stm 98 [0,2,1,3,4]
    | apply stm 99 [9,25,12]
    | apply stm 100 [6,12,6,13]
    | apply stm 101 [26,10,27,8]
    | apply stm 102 [13,9,24,6]
    | apply stm 103 [5,0,2,8,12,25,8]
    | apply stm 104 [24,5,12,24,1]
    | apply stm 105 [25,13,27,15]
    | apply stm 106 [25,2,24,12,0,24,7]
    | apply stm 107 [13,10,21,0]
    | apply stm 108 [27,6,27,7]
    | apply stm 109 [15,0,24,15,1]
    | apply stm 110 [9,25,15]
    | apply stm 111 [26,9,1,3]
    | apply stm 112 [24,10,9,18]
    | apply stm 113 [4,24,0]
    | apply stm 114 [26,0,26,0]
    | apply stm 115 [0,24,2]
    | apply stm 116 [5,26,12]
    | apply stm 117 [39,1,3]
    | apply stm 118 [0,25,4,13,10])):Stv p B A:=⟨fun h=>(t h).go⟩
theorem au (p:List Nat){A B:Prop}(h:B)(t:Stv p B A:=by exact au0 _):A:=t.go h
theorem av (p:List Nat){A B C:Prop}(h:B)(k:C)(t:Stv p (B∧C) A:=by exact au0 _):A:=t.go ⟨h,k⟩
theorem aw (p:List Nat){A B C B' C':Prop}(h:B)(k:C)(t:Stv p ((B'→B)∧(C'→C)) A:=by exact au0 _):A:=t.go ⟨fun _=>h,fun _=>k⟩
theorem az (p:List Nat){A:Prop}(t:Stv p True A:=by exact au0 _):A:=t.go trivial
instance mx:Mx qFj:=⟨mixed⟩
theorem qmr (hm:kQ F p1=some i1) :
    qFk 20 [.agg #[qFd l1 p1 t1]] [SlN eN56 iN56 1 (qFd l1 p1 t1) p1 n1] (qFc i1):=by
 refine pureA func20 ntmps20 hm fun _=>?_
 refine au [64,23] ?_
 intro g4
 refine aw [5,0,2,1,3,9,18,24,4,5,0,2,1,1,3,4,25,2,0,2,10] ?_ ?_
 exact az [45,75]
 refine au [97,47] ?_
 refine qP (fun ((x0,_):Int×Unit)=>([(4,qFc x0)],[],[],[],qdn F x0)) ?_ ?_
 refine au [45,78,84] ?_
 refine qr [3,16,17] [] [] [0] (fun (((x2,x3),_):(Int×Int)×Unit)=>([(4,qFc x2),(18,qFc x3)],[],[],[])) ((0:Int),(0:Int)) () ?_
 intro k0
 rintro ⟨⟨x2,x3⟩,_⟩
 refine aw [39,1,3,24,3,0,2,1,10] ?_ ?_
 refine au [57] ?_
 refine qj [3,16,17,18] [] [] [0] (fun ((x4,_):Int×Unit)=>([(4,qFc x4)],[],[],[],qdo F (vt F p1 k0) x3 x4)) ?_ ?_
 refine au [14,45,27,2] ?_
 intro x5 e0 g0 b0 o0
 refine au [25,3,80,47] ?_
 refine qj [3,4,6,16,17,18] [] [] [1,2] (fun ((_,_):Unit×Unit)=>([],[],[],[],qbK F (vt F p1 k0) x2 x3 x5)) ?_ ?_
 refine au [48,84] ?_
 refine qr [3,4,6,16,17,18,22,23] [] [] [1,2] (fun (((x6,x7),_):(Int×Int)×Unit)=>([(7,qFc x6),(24,qFc x7)],[],[],[])) ((-1:Int),(0:Int)) () ?_
 intro k1
 rintro ⟨⟨x6,x7⟩,_⟩
 refine aw [39,1,3,24,3,0,2,1,10] ?_ ?_
 refine au [83,45,26,2] ?_
 intro x8 e1 b1 o1
 refine au [25,3,81,14,48,24,3,4] ?_
 refine zT 4 31 35 [3,4,6,7,16,17,18,22,23,24,9] (decide ((p1.length:Int)≤x8)) ?_ ?_ ?_
 exact az [62,7,61]
 exact az [89,26,4,60]
 refine aw [5,0,2,10] ?_ ?_
 exact az [45,49,50,90,50,90,104]
 refine aw [1,3,4,4,28,5,5,0,2,10] ?_ ?_
 exact az [45,49,50,90,50,90,104]
 refine au [11,63,3,4,5,0,95] ?_
 exact ql ((x8,iadd .i64 x7 1),())
 exact az [71,26,7]
 rintro ⟨_,_⟩
 refine au [39,3,89,24,4,24,0,5,115] ?_
 exact qa (iadd .i64 x2 (x5.length:Int),())
 rintro ⟨x4,_⟩
 refine au [39,94] ?_
 exact ql ((x4,iadd .i64 x3 1),())
 refine au [71] ?_
 exact qa (x2,())
 rintro ⟨x0,_⟩
 refine aw [39,1,1,3,4,25,2,0,2,10] ?_ ?_
 exact az [45,75]
 exact az [97,68]
theorem qnW (hm:vJ F i1 i2 i3=some i4) :
    qFk 21 [.agg #[qFc i1,qFc i2,qFc i3]] [] (qFc i4):=by
 refine pureA func21 ntmps21 hm fun _=>?_
 refine au [64,23] ?_
 intro g4
 refine au [81,45,78,24,3,4] ?_
 refine zT 4 6 10 [1] (decide (7<i1)) ?_ ?_ ?_
 exact az [62,7,61]
 exact az [78,106]
 refine au [4] ?_
 refine zT 4 11 15 [1] (decide (i2<0)) ?_ ?_ ?_
 exact az [62,7,61]
 exact az [78,24,3,60]
 refine au [4] ?_
 refine zT 4 16 20 [1] ((i2:Int) == 1) ?_ ?_ ?_
 exact az [62,7,61]
 exact az [78,25,6,60]
 refine au [4] ?_
 refine zT 4 21 25 [1] (decide (300<i2)) ?_ ?_ ?_
 exact az [62,7,61]
 exact az [78,106]
 refine au [4] ?_
 refine zT 4 26 30 [1] (decide (i3<1)) ?_ ?_ ?_
 exact az [62,7,61]
 exact az [78,24,3,60]
 refine au [4] ?_
 refine zT 4 31 35 [] (decide (16<i3)) ?_ ?_ ?_
 exact az [62,7,61]
 exact az [78,106]
 refine aw [0,2,10] ?_ ?_
 exact az [45,75]
 exact az [97,68]
theorem qnF (hm:y8 F p1 i1 i2 i3=some i4) :
    qFk 13 [.agg #[qFd l1 p1 t1,qFc i1,qFc i2,qFc i3]] [SlN eN56 iN56 1 (qFd l1 p1 t1) p1 n1] (qFc i4):=by
 refine pureA func13 ntmps13 hm fun _=>?_
 refine au [64,23] ?_
 intro g7
 refine au [81,45,9,24,9,28,2] ?_
 intro x10 e10 _
 refine aw [5,0,2,1,3,4,25,1,0,2,10] ?_ ?_
 exact az [48,75]
 refine au [97,9,24,9,29,10] ?_
 intro x11 e11 _
 exact az [68]
theorem qg5 (hm:kS F m1=some m2) :
    Pure qFj 46 [qFd l1 m1 t1] [qFf l1 m1 t1] (qFb×Nat) (fun g=>qFd g.1 m2 g.2) (fun g=>[qFg g.1 m2 g.2]) (fun _=>[]):=by
 refine pureA func46 ntmps46 hm fun _=>?_
 refine av [64,81,48,32,11,46,32,12] ?_ ?_
 intro h11
 refine qqJ 0 (qD .i64) (by decide) rfl h11 (fun h12=>?_)
 subst h12
 refine qbW (m':=some ([]:qFa)) rfl ?_
 refine au [45,103] ?_
 exact qy (none,0)
 intro _
 refine au [97] ?_
 refine zL (k:=.i64) [] ?_
 intro a6 c7
 refine au [4,31,4] ?_
 intro x8 e8 a9 c10
 refine au [49] ?_
 exact qy (a9,c10)
theorem qq4 {r:(List (qFa)×Int×Int×Int)}(hm:qfz F p1 i1 i2 i3=some r) :
    Pure qFj 23 [.agg #[qFd l1 p1 t1,qFc i1,qFc i2,qFc i3]] [SlN eN56 iN56 1 (qFd l1 p1 t1) p1 n1] (qFb×Nat×List (qFb×Nat)) (fun g=>.agg #[qFd g.1 r.1 g.2.1,qFc r.2.1,qFc r.2.2.1,qFc r.2.2.2]) (fun g=>[RoN eN56 rN56 56 1 (qFd g.1 r.1 g.2.1) r.1 g.2.2 []]) (fun _=>[]):=by
 refine pureA func23 ntmps23 hm fun _=>?_
 refine au [64,23] ?_
 intro g7
 refine au [24,6] ?_
 intro g8
 refine au [46] ?_
 refine qj [1,2] [0,1] [] [0] (fun ((x20,g17,a18,c19):List (qFa)×Nat×qFb×Nat×List (qFb×Nat))=>([(3,qFe g17)],[⟨g17,28,[qFd a18 x20 c19.1,qFc i1,qFc i2,qFc i3]⟩],[RoN eN56 rN56 56 1 (qFd a18 x20 c19.1) x20 c19.2 []],[],qei F p1 i1 i2 i3 x20)) ?_ ?_
 refine qK [] [0,0] [0] 11 ?_
 refine au [15,0,15,1,26,8,2,28,3,3,15,6] ?_
 refine qC 7 (.agg #[qFc i1,qFc i2,qFc i3]) rfl rfl rfl (qA (i:=1) rfl tf26 rfl rfl (by simp) rfl) (vd 4 9 rfl rfl (by kernel_rfl) rfl rfl ?_ ?_)
 refine au [29,11] ?_
 intro x0 e0 a0 c0
 refine au [0,30,5] ?_
 refine qb 5 (.agg #[qFd a0 x0 c0]) rfl rfl rfl (qdO (cells:=[qFd a0 x0 c0]) st24 rfl (by kernel_rfl)) (qb 8 (.agg #[qFd a0 x0 c0,qFc i1,qFc i2,qFc i3]) rfl rfl rfl (qdO (cells:=[qFd a0 x0 c0,qFc i1,qFc i2,qFc i3]) st28 rfl (by kernel_rfl)) ?_)
 refine au [102] ?_
 intro g0
 refine au [0,26,15,107,26,15,54] ?_
 exact qa (x0,g0,a0,c0,(qCc x0.length ((none,0):qFb×Nat)))
 refine k8 (m':=((mk 4398046511104 (([]:qFa):qFa) (p1.length:Int)).bind fun x2=>qei F p1 i1 i2 i3 x2)) (rfl) ?_
 refine au [24,6] ?_
 intro g1
 refine au [0,26,15,13,4,29,11] ?_
 intro x2 e1 a1 c1
 refine au [0,26,15] ?_
 refine qb 5 (.agg #[qFd a1 x2 c1]) rfl rfl rfl (qdO (cells:=[qFd a1 x2 c1]) st24 rfl (by kernel_rfl)) (qb 8 (.agg #[qFd a1 x2 c1,qFc i1,qFc i2,qFc i3]) rfl rfl rfl (qdO (cells:=[qFd a1 x2 c1,qFc i1,qFc i2,qFc i3]) st28 rfl (by kernel_rfl)) ?_)
 refine au [107,26,15,54] ?_
 exact qa (x2,g1,a1,c1,(qCc x2.length ((none,0):qFb×Nat)))
 rintro ⟨x20,g17,a18,c19⟩
 try dsimp only
 refine qj [2,3] [0] [] [] (fun ((x3,g2):List (qFa)×List (qFb×Nat))=>([],[⟨g17,28,[qFd a18 x3 c19.1,qFc i1,qFc i2,qFc i3]⟩],[RoN eN56 rN56 56 1 (qFd a18 x3 c19.1) x3 g2 []],[],qiu F i1 i2 i3 x3)) ?_ ?_
 refine au [45,9,99,84] ?_
 refine qr [2,3,17,18] [0] [] [0] (fun (((x7,x8),g3):(Int×List (qFa))×List (qFb×Nat))=>([(19,qFc x7)],[⟨g17,28,[qFd a18 x8 c19.1,qFc i1,qFc i2,qFc i3]⟩],[RoN eN56 rN56 56 1 (qFd a18 x8 c19.1) x8 g3 []],[])) ((0:Int),x20) c19.2 ?_
 intro k0
 rintro ⟨⟨x7,x8⟩,g3⟩
 refine aw [39,1,3,24,3,0,2,1,10] ?_ ?_
 refine au [83,48,27,2] ?_
 intro x9 e2 g4 b0 o0
 refine au [25,3,5,47,29,12] ?_
 intro x10 e3 g5 h0 g6 h1
 replace h1:a18=some ⟨g6,0,none⟩:=h1
 have h2:=zP (k:=x8.length) (c:=c19.1) h1
 refine qfn (i:=0) rfl h0 (List.not_mem_nil) ?_
 refine au [32,13,15,0,15,1,26,8,2,6,3,6,4,13,5,32,14] ?_
 rintro x11 e4 ⟨a3,c2⟩
 refine au [0] ?_
 refine zM [0,0] [0,1,2] ?_
 refine j5 6 h1 e3 ?_
 refine au [13,7] ?_
 refine qag (j:=2) (kh:=0) (y':=x11) (q':=(a3,c2)) qq rfl rfl rfl tf56 rfl (zP h1) rfl (qw e3).2.1 rfl (.cons 0 rfl .nil) (fun x12 e5 h3 g9=>?_)
 have h4:x12.length=x8.length:=by rw[← e5,qCw]
 refine zu 26 h3 ?_
 refine q7 (i:=1) (cs':=[qFd a18 x12 c19.1,qFc i1,qFc i2,qFc i3]) rfl (by simp only[qFd,h3] <;> rfl) ?_
 refine au [0] ?_
 refine qc (.cons 0 rfl (.cons 0 (by simp only[qFd,h4] <;> rfl) .nil)) (qh 0 rfl (qh 1 rfl (qh 2 rfl qg))) ?_
 refine au [54,95] ?_
 exact ql ((iadd .i64 x7 1,x12),g9)
 refine au [71] ?_
 exact qa (x8,g3)
 rintro ⟨x3,g2⟩
 refine au [117,25,10,21,46,8] ?_
 exact qd9 (a18,c19.1,g2) 0
theorem qsB {r:(Int×Int)}(hm:qji F i1 i2=some r) :
    qFk 203 [.int .u32 i1,.int .u32 i2] [] (.tuple #[.int .u32 r.1,.int .u32 r.2]):=by
 refine pureA func203 ntmps203 hm fun _=>?_
 refine au [56,5,59,25,11,4,25,11,27,11,116] ?_
 intro x3 e3
 refine qal 6 e3 ?_
 exact az [98,27,3,25,11,4,25,11,5,68]
theorem qjg {r:(Int×Int)}(hm:qf5 F i1 i2=some r) :
    qFk 204 [.int .u64 i1,.int .u64 i2] [] (.tuple #[.int .u64 r.1,.int .u64 r.2]):=by
 refine pureA func204 ntmps204 hm fun _=>?_
 refine au [56,5,59,28,9,59,27,3,59,28,9,59,27,3,59,4,27,11,116] ?_
 intro x3 e3
 refine qal 10 e3 ?_
 refine au [98,4,27,11,4,27,3,24,0,116] ?_
 intro x4 e4
 refine qal 11 e4 ?_
 refine au [98,28,9,59,27,3,59,89,27,11,24,0,116] ?_
 intro x5 e5
 refine qal 12 e5 ?_
 refine au [98,4,27,11,4,66,27,3,24,0,116] ?_
 intro x6 e6
 refine qal 4 e6 ?_
 exact az [98,4,27,11,68]
theorem qkT {r:(Int×Int)}(hm:qcI F i1 i2=some r) :
    qFk 175 [.int .u64 i1,.int .u64 i2] [] (.tuple #[.int .u64 r.1,.int .u64 r.2]):=by
 refine pureA func175 ntmps175 hm fun _=>?_
 refine au [56,5,81] ?_
 refine yh (b:=false) rfl (fun h=>by cases h) (fun _=>?_)
 refine au [57,48,4] ?_
 refine qd qjg ?_
 intro x3 e3 _
 exact az [4,79,5,59,4,5,68]
theorem qgQ (hm:qe F m1 i1=some m2) :
    Pure qFj 131 [qFd l1 m1 t1,qFc i1] [qFf l1 m1 t1] (qFb×Nat) (fun g=>qFd g.1 m2 g.2) (fun g=>[qFg g.1 m2 g.2]) (fun _=>[]):=by
 refine pureA func131 ntmps131 hm fun _=>?_
 refine aw [24,8,1,3,5,0,2,1,1,3,4,24,3,0,2,10] ?_ ?_
 exact az [29,13]
 refine au [57,48,24,4,25,11,4,25,11] ?_
 refine qd qkT ?_
 intro x6 e6 _
 refine au [4,79,5,81,48,25,2,4] ?_
 refine zT 3 23 26 [0,6] (decide (9223372036854775807<x6.2)) ?_ ?_ ?_
 exact az [62,61]
 exact az [4,106]
 refine aw [0,2,10] ?_ ?_
 exact az [29,13]
 refine au [57,48,25,11,26,1] ?_
 intro x10 e10 a11 c12
 refine au [59,4] ?_
 refine qu2 (j:=0) (i:=0) (qD .i64) rfl UnF.u inferInstance rfl rfl rfl rfl rfl ?_
 intro x13 e13 h14
 have h15:x13.length=x10.length:=by rw[← e13];exact qeJ (Nat.zero_le _)
 refine zu 7 h14 ?_
 refine zu 30 h14 ?_
 refine zu 31 h14 ?_
 refine au [47] ?_
 refine qP (fun ((x64,_):qFa×Unit)=>([(7,qFd a11 x64 c12)],[],[qFg a11 x64 c12],[],vV F x64)) ?_ ?_
 refine au [14] ?_
 refine quY (fun (((x80,x81),_):(qFa×Int)×Unit)=>([(7,qFd a11 x80 c12),(8,qFc x81)],[],[qFg a11 x80 c12],[])) (fun k (s:(qFa×Int)×Unit)=>kN F k s.1) ((x13,((min m1.length x10.length:Nat):Int)),()) F ?_
 intro k97
 rintro ⟨⟨x80,x81⟩,_⟩
 try dsimp only
 refine qbW (m':=yz F (kN F k97) x80 x81) rfl ?_
 refine aw [1,1,3,4,4,24,4,24,3,0,2,10] ?_ ?_
 refine au [57,14,32,15] ?_
 intro x99 e99 a0 c0 h0 h1
 refine au [32,15] ?_
 intro x0 e0 a1 c1 h2 h3
 refine qK [] [] [] 10 ?_
 refine au [92] ?_
 refine qb 3 (qFd a0 x99 c0) rfl rfl rfl (qcY underlying56 tf3 rfl rfl rfl e99 h1 h0) ?_
 refine au [6,4,6,5] ?_
 refine qb 6 (qFd a1 x0 c1) rfl rfl rfl (qcY underlying56 tf3 rfl rfl rfl e0 h3 h2) ?_
 refine au [13,7] ?_
 refine qu3 (j:=0) (qD .i64) rfl underlying56 tf3 e99 h0 e0 h2 rfl rfl rfl rfl (fun x2 e1 h4=>?_)
 have h5:x2.length=x80.length:=by rw[← e1];exact qeJ (by have:=qdL e99;omega)
 refine zu 7 h4 ?_
 refine zu 35 h4 ?_
 refine zu 39 h4 ?_
 refine zu 42 h4 ?_
 refine au [0] ?_
 refine zM [] [] ?_
 refine au [6,8,6,9,54,24,2] ?_
 exact ql ((x2,iadd .i64 x81 ((min x0.length x99.length:Nat):Int)),())
 refine au [71] ?_
 exact qa (x80,())
 rintro ⟨x64,_⟩
 refine au [91,49] ?_
 exact qy (a11,c12)
theorem qg6 (hm:zE F m1 i1=some i2) :
    qFk 85 [qFd l1 m1 t1,qFc i1] [qFf l1 m1 t1] (qFc i2):=by
 refine pureA func85 ntmps85 hm fun _=>?_
 refine au [56,47] ?_
 refine qP (fun ((_,_):Unit×Unit)=>([],[],[],[],qct F)) ?_ ?_
 refine au [48,84] ?_
 refine qr [0,1,7] [] [] [0] (fun ((x47,_):Int×Unit)=>([(8,qFc x47)],[],[],[])) (0:Int) () ?_
 intro k58
 rintro ⟨x47,_⟩
 refine aw [39,1,3,24,3,0,2,1,10] ?_ ?_
 refine au [83,48,59,89,26,2] ?_
 intro x64 e64 b65 o66
 refine aw [25,3,25,6,0,2,10] ?_ ?_
 exact az [48,49,90,104]
 refine au [11,95] ?_
 exact ql (iadd .i64 x47 1,())
 exact az [71,26,7]
 rintro ⟨_,_⟩
 exact az [117,68]
theorem qhE (F:Nat)(x1:qFa)(a2:qFb)(c3:Nat)(r:Int)(hm:jZ F x1=some r) :
    qFk 205 [qFd a2 x1 c3] [qFf a2 x1 c3] (qFc r):=by
 refine pureA func205 ntmps205 hm fun _=>?_
 refine aw [25,0,1,3,5,0,2,1,1,3,4,24,4,24,3,0,2,10] ?_ ?_
 exact az [29,13]
 refine au [57,48,26,2] ?_
 intro x5 e5 b6 o7
 refine au [25,3,47] ?_
 refine qP (fun ((x35,_):Int×Unit)=>([(3,qFc x35)],[],[],[],qc0 F x35)) ?_ ?_
 refine au [45,47,14] ?_
 refine qr [0] [] [] [1] (fun (((x44,x45),_):(Int×Int)×Unit)=>([(3,qFc x44),(4,qFc x45)],[],[],[])) (x5,(1:Int)) () ?_
 intro k54
 rintro ⟨⟨x44,x45⟩,_⟩
 refine aw [39,1,1,3,4,4,24,4,24,3,0,2,10] ?_ ?_
 refine au [83,3,89,4,26,2] ?_
 intro x59 e59 b60 o61
 refine au [25,3,28,10,5,0,63,3,113,5,0] ?_
 exact ql ((imin x44 x59,iadd .i64 x45 1),())
 refine au [71] ?_
 exact qa (x44,())
 rintro ⟨x35,_⟩
 exact az [91,68]
theorem qhA (F g1:Nat)(x2:List (qFa))(a3:qFb)(c4:(Nat×List (qFb×Nat)))(x5:qFa)(a6:qFb)(c7:Nat)(x8:qFa)(a9:qFb)(c10:Nat)(x11:qFa)(a12:qFb)(c13:Nat)(x14:qFa)(a15:qFb)(c16:Nat)(x17 x18:Int)(r:(qFa×qFa×qFa×qFa×Int))(hm:ji F x2 x5 x8 x11 x14 x17 x18=some r) :
    PureM qFj 176 [qFe g1,qFc x18] [⟨g1,183,[qFd a3 x2 c4.1,qFd a6 x5 c7,qFd a9 x8 c10,qFd a12 x11 c13,qFd a15 x14 c16,qFc x17]⟩] [qFg a6 x5 c7,qFg a9 x8 c10,qFg a12 x11 c13,qFg a15 x14 c16] [SlN eN56 iN56 1 (qFd a3 x2 c4.1) x2 c4.2] ((qFb×Nat)×(qFb×Nat)×(qFb×Nat)×qFb×Nat) (fun _=>.tuple #[]) (fun g=>[⟨g1,183,[qFd a3 x2 c4.1,qFd g.1.1 r.1 g.1.2,qFd g.2.1.1 r.2.1 g.2.1.2,qFd g.2.2.1.1 r.2.2.1 g.2.2.1.2,qFd g.2.2.2.1 r.2.2.2.1 g.2.2.2.2,qFc r.2.2.2.2]⟩]) (fun g=>[qFg g.1.1 r.1 g.1.2,qFg g.2.1.1 r.2.1 g.2.1.2,qFg g.2.2.1.1 r.2.2.1 g.2.2.1.2,qFg g.2.2.2.1 r.2.2.2.1 g.2.2.2.2]):=by
 refine pureMA func176 ntmps176 hm fun _=>?_
 refine au [24,8,48,112,4,31,5] ?_
 intro x19 e19 _
 refine au [59,112,4] ?_
 refine qxC (j:=2) rfl UnF.u inferInstance rfl rfl rfl rfl ?_
 intro h20 g21 h22
 refine au [59] ?_
 refine qt (d:=21) (v:=.slice (some ⟨g21,x19.toNat*1,none⟩) (x11.drop x19.toNat).length (c13-x19.toNat)) rfl (by rw[List.length_drop]) (vm EnC.e rfl rfl rfl (fun x23 e23=>qhE F (x11.drop x19.toNat) (some ⟨g21,x19.toNat*1,none⟩) (c13-x19.toNat) x23 e23) (.consG 2 rfl (qBu (qD .i64) h22 (by have:=h20;omega)) .nil) (fun x23 e23=>?_))
 intro _
 refine au [47] ?_
 refine qj [0,4] [] [0,1,2] [0] (fun ((x75,_):qFa×Unit)=>([],[⟨g1,183,[qFd a3 x2 c4.1,qFd a6 x5 c7,qFd a9 x8 c10,qFd a12 x11 c13,qFd a15 x75 c16,qFc x17]⟩],[qFg a15 x75 c16],[],qac F x5 x8 x11 x17 x19 x75)) ?_ ?_
 refine au [48,84] ?_
 refine qr [0,4,6,23,24] [] [0,0,0] [0] (fun (((x93,x94),_):(Int×qFa)×Unit)=>([(25,qFc x93)],[⟨g1,183,[qFd a3 x2 c4.1,qFd a6 x5 c7,qFd a9 x8 c10,qFd a12 x11 c13,qFd a15 x94 c16,qFc x17]⟩],[qFg a15 x94 c16],[])) ((0:Int),x14) () ?_
 intro k0
 rintro ⟨⟨x93,x94⟩,_⟩
 refine aw [39,1,3,24,3,0,2,1,10] ?_ ?_
 refine au [83,45] ?_
 refine qsg (xs:=x11) rfl rfl underlying56 tf3 rfl rfl rfl (fun x0 e0=>qu9 (j:=2) (qD .i64) rfl rfl tf3 rfl h22 e0 (fun _=>rfl) rfl rfl ?_)
 refine au [47,3,4,112,89] ?_
 refine qcX (j:=3) rfl UnF.u inferInstance rfl rfl rfl rfl ?_
 intro x1 e1 g0 h0
 refine ky (j:=3) (y':=x23) (qD .i64) rfl rfl rfl tf3 rfl h0 (qw e1).2.1 rfl (fun x3 e2 h1=>?_)
 have h2:x3.length=x94.length:=by rw[← e2,qCw]
 refine qt (d:=32) (v:=qFd a15 x3 c16) rfl h1 (q7 (i:=0) (cs':=[qFd a3 x2 c4.1,qFd a6 x5 c7,qFd a9 x8 c10,qFd a12 x11 c13,qFd a15 x3 c16,qFc x17]) rfl (by simp only[qFd,h1] <;> rfl) ?_)
 refine au [0,95] ?_
 exact ql ((iadd .i64 x93 1,x3),())
 refine au [71] ?_
 exact qa (x94,())
 rintro ⟨x75,_⟩
 refine au [39,3,89,112,4] ?_
 refine qqM (i:=2) (qD .i64) rfl UnF.u inferInstance rfl rfl rfl rfl ?_
 intro x76 e76
 refine au [55,85] ?_
 exact qM ((a6,c7),(a9,c10),(a12,c13),a15,c16)
theorem qhB:∀ (F g1:Nat)(x2:List (qFa))(a3:qFb)(c4:(Nat×List (qFb×Nat)))(x5:qFa)(a6:qFb)(c7:Nat)(x8:qFa)(a9:qFb)(c10:Nat)(x11:qFa)(a12:qFb)(c13:Nat)(x14:qFa)(a15:qFb)(c16:Nat)(x17 x18:Int)(r:(qFa×qFa×qFa×qFa×Int)),q8 F x2 x5 x8 x11 x14 x17 x18=some r→PureM qFj 132 [qFe g1,qFc x18] [⟨g1,183,[qFd a3 x2 c4.1,qFd a6 x5 c7,qFd a9 x8 c10,qFd a12 x11 c13,qFd a15 x14 c16,qFc x17]⟩] [qFg a6 x5 c7,qFg a9 x8 c10,qFg a12 x11 c13,qFg a15 x14 c16] [SlN eN56 iN56 1 (qFd a3 x2 c4.1) x2 c4.2] ((qFb×Nat)×(qFb×Nat)×(qFb×Nat)×qFb×Nat) (fun _=>.tuple #[]) (fun g=>[⟨g1,183,[qFd a3 x2 c4.1,qFd g.1.1 r.1 g.1.2,qFd g.2.1.1 r.2.1 g.2.1.2,qFd g.2.2.1.1 r.2.2.1 g.2.2.1.2,qFd g.2.2.2.1 r.2.2.2.1 g.2.2.2.2,qFc r.2.2.2.2]⟩]) (fun g=>[qFg g.1.1 r.1 g.1.2,qFg g.2.1.1 r.2.1 g.2.1.2,qFg g.2.2.1.1 r.2.2.1 g.2.2.1.2,qFg g.2.2.2.1 r.2.2.2.1 g.2.2.2.2]):=by
  intro F
  induction F with
  | zero=>intro g1 x2 a3 c4 x5 a6 c7 x8 a9 c10 x11 a12 c13 x14 a15 c16 x17 x18 r hm;exact absurd hm (by simp[q8])
  | succ F ih =>
    intro g1 x2 a3 c4 x5 a6 c7 x8 a9 c10 x11 a12 c13 x14 a15 c16 x17 x18 r hm
    refine qjD func132 rfl ntmps132 rfl hm (fun w=>?_)
    refine qoR (l':=[(0,qFe g1),(1,qFc x18)]) rfl ?_
    refine kD ?_
    refine qW ?_
    refine q9 rfl rfl rfl ?_
    refine km rfl rfl rfl ?_
    refine qY rfl rfl ff183_5 rfl ?_
    refine zX (i:=0) rfl rfl tf3 rfl rfl (fun _=>rfl) rfl rfl ?_
    refine qk2 rfl rfl rfl rfl ?_
    refine km rfl rfl rfl ?_
    refine qY rfl rfl ff183_5 rfl ?_
    refine kP (i:=0) rfl rfl rfl tf3 rfl rfl rfl rfl rfl ?_
    refine zK ?_
    refine zF ?_
    refine kD ?_
    refine qce (j:=0) rfl (fun x33 e33 g34 h35=>?_)
    replace h35:a6=some ⟨g34,0,none⟩:=h35
    have h36:=zP (k:=x5.length) (c:=c7) h35
    refine qce (j:=1) rfl (fun x37 e37 g38 h39=>?_)
    replace h39:a9=some ⟨g38,0,none⟩:=h39
    have h40:=zP (k:=x8.length) (c:=c10) h39
    refine kC mixed [] _ _ (.cons 0 rfl .nil) (qh 0 rfl qg) 22 rfl ?_
    refine qb 0 (qFe g1) rfl rfl rfl (zC rfl) ?_
    refine qb 1 (qFe g1) rfl rfl rfl (zC rfl) ?_
    refine qb 2 (.pointer (some ⟨g1,1,none⟩)) rfl rfl rfl (zi rfl ff183_1) ?_
    refine qC 3 (qFd a6 x5 c7) rfl rfl rfl (qA (i:=0) rfl tf56 rfl rfl (fun _=>rfl) rfl) ?_
    refine qb 4 (qFc x18) rfl rfl rfl (zC rfl) ?_
    refine qb 5 (qFe g1) rfl rfl rfl (zC rfl) ?_
    refine qb 6 (qFe g1) rfl rfl rfl (zC rfl) ?_
    refine qb 7 (.pointer (some ⟨g1,2,none⟩)) rfl rfl rfl (zi rfl ff183_2) ?_
    refine qC 8 (qFd a9 x8 c10) rfl rfl rfl (qA (i:=0) rfl tf56 rfl rfl (fun _=>rfl) rfl) ?_
    refine qb 9 (qFc x18) rfl rfl rfl (zC rfl) ?_
    refine qb 10 (qFe g1) rfl rfl rfl (zC rfl) ?_
    refine qb 11 (qFe g1) rfl rfl rfl (zC rfl) ?_
    refine qb 12 (.pointer (some ⟨g1,5,none⟩)) rfl rfl rfl (zi rfl ff183_5) ?_
    refine qC 13 (qFc (iadd .i64 x17 1)) rfl rfl rfl (qA (i:=0) rfl tf3 rfl rfl (fun _=>rfl) rfl) ?_
    refine qb 14 (qFe g1) rfl rfl rfl (zC rfl) ?_
    refine qb 15 (qFe g1) rfl rfl rfl (zC rfl) ?_
    refine qb 16 (.pointer (some ⟨g1,5,none⟩)) rfl rfl rfl (zi rfl ff183_5) ?_
    refine qC 17 (qFc (iadd .i64 x17 1)) rfl rfl rfl (qA (i:=0) rfl tf3 rfl rfl (fun _=>rfl) rfl) ?_
    refine zZ (d:=16) (v:=qFd (some ⟨g34,0,none⟩) x5 c7) rfl (by simp only[qFd,h35] <;> rfl) ?_
    refine qb 18 (.pointer (some ⟨g34,x18.toNat*1,none⟩)) rfl rfl rfl (qbX underlying56 tf3 rfl rfl (qw e33).1 (qcW e33)) ?_
    refine zZ (d:=16) (v:=qFd a6 x5 c7) rfl (by simp only[qFd,h35] <;> rfl) ?_
    refine qg2 19 rfl (by kernel_rfl) rfl ?_
    refine ky (j:=0) (y':=iadd .i64 x17 1) (qD .i64) rfl rfl rfl tf3 rfl (zP h35) (qw e33).2.1 rfl (fun x41 e41 h42=>?_)
    have h43:x41.length=x5.length:=by rw[← e41,qCw]
    refine qt (d:=16) (v:=qFd a6 x41 c7) rfl h42 ?_
    refine q7 (i:=0) (cs':=[qFd a3 x2 c4.1,qFd a6 x41 c7,qFd a9 x8 c10,qFd a12 x11 c13,qFd a15 x14 c16,qFc (iadd .i64 x17 1)]) rfl (by simp only[qFd,h42] <;> rfl) ?_
    refine zK ?_
    refine qc (.cons 0 (by simp only[qFd,h43] <;> rfl) .nil) (qh 0 rfl qg) ?_
    refine zZ (d:=21) (v:=qFd (some ⟨g38,0,none⟩) x8 c10) rfl (by simp only[qFd,h39] <;> rfl) ?_
    refine qb 20 (.pointer (some ⟨g38,x18.toNat*1,none⟩)) rfl rfl rfl (qbX underlying56 tf3 rfl rfl (qw e37).1 (qcW e37)) ?_
    refine zZ (d:=21) (v:=qFd a9 x8 c10) rfl (by simp only[qFd,h39] <;> rfl) ?_
    refine qg2 21 rfl (by kernel_rfl) rfl ?_
    refine ky (j:=1) (y':=iadd .i64 x17 1) (qD .i64) rfl rfl rfl tf3 rfl (zP h39) (qw e37).2.1 rfl (fun x44 e44 h45=>?_)
    have h46:x44.length=x8.length:=by rw[← e44,qCw]
    refine qt (d:=21) (v:=qFd a9 x44 c10) rfl h45 ?_
    refine q7 (i:=0) (cs':=[qFd a3 x2 c4.1,qFd a6 x41 c7,qFd a9 x44 c10,qFd a12 x11 c13,qFd a15 x14 c16,qFc (iadd .i64 x17 1)]) rfl (by simp only[qFd,h45] <;> rfl) ?_
    refine zK ?_
    refine qc (.cons 0 (by simp only[qFd,h43,h46] <;> rfl) .nil) (qh 0 rfl qg) ?_
    refine qg1 (by kernel_rfl) ?_
    refine qkA ?_ (by intro c h;cases h)
    refine zF ?_
    refine kD ?_
    refine qW ?_
    refine q9 rfl rfl rfl ?_
    refine q9 rfl rfl rfl ?_
    refine km rfl rfl rfl ?_
    refine qY rfl rfl ff183_3 rfl ?_
    refine zX (i:=0) rfl rfl tf56 rfl rfl (fun _=>rfl) rfl rfl ?_
    refine q9 rfl rfl rfl ?_
    refine qbr (vs:=[qFc x18]) (ys:=([x18]:qFa)) (qD .i64) (by decide) rfl underlying56 tf3 rfl rfl rfl rfl rfl (by decide) (fun a47 c48=>?_)
    refine zD 3 (qD .i64) rfl underlying56 tf3 rfl rfl rfl rfl rfl (.inl ⟨0,_,rfl⟩) rfl rfl (fun x49 e49 a50 c51=>?_)
    refine km rfl rfl rfl ?_
    refine qY rfl rfl ff183_3 rfl ?_
    refine kP (i:=0) rfl rfl rfl tf56 rfl rfl rfl rfl rfl ?_
    refine zK ?_
    refine zF ?_
    refine qj [0,1] [] [] [0] (fun (((x0,x1,x3,x4,x6),a0,c0,a1,c1,a2,c2,a4,c3):(qFa×qFa×qFa×qFa×Int)×qFb×Nat×qFb×Nat×qFb×Nat×qFb×Nat)=>([],[⟨g1,183,[qFd a3 x2 c4.1,qFd a0 x0 c0,qFd a1 x1 c1,qFd a2 x3 c2,qFd a4 x4 c3,qFc x6]⟩],[qFg a0 x0 c0,qFg a1 x1 c1,qFg a2 x3 c2,qFg a4 x4 c3],[],qae F x2 x18 x0 x1 x3 x4 x6)) ?_ ?_
    · refine kD ?_
      refine qW ?_
      refine q9 rfl rfl rfl ?_
      refine km rfl rfl rfl ?_
      refine qY rfl rfl ff183_0 rfl ?_
      refine zX (i:=0) rfl rfl tf22 rfl rfl (fun _=>rfl) rfl rfl ?_
      refine q9 rfl rfl rfl ?_
      refine qi0 (j:=0) qq (by decide) rfl underlying22 tf56 rfl rfl rfl rfl (fun x7 e0 g0 b0 o0=>?_)
      refine qii (j:=0) rfl rfl tf56 rfl rfl (fun _=>rfl) rfl rfl ?_
      refine qoW rfl underlying56 rfl rfl ?_
      refine q9 rfl rfl rfl ?_
      refine zK ?_
      refine zF ?_
      refine qg3 ?_
      refine qnt [0,1,49,50] [] [] [1,2] (fun (((x9,x10,x12,x13,x15,x16),a5,c5,a7,c6,a8,c8,a10,c9):(Int×qFa×qFa×qFa×qFa×Int)×qFb×Nat×qFb×Nat×qFb×Nat×qFb×Nat)=>([(51,qFc x9)],[⟨g1,183,[qFd a3 x2 c4.1,qFd a5 x10 c5,qFd a7 x12 c6,qFd a8 x13 c8,qFd a10 x15 c9,qFc x16]⟩],[qFg a5 x10 c5,qFg a7 x12 c6,qFg a8 x13 c8,qFg a10 x15 c9],[])) (fun k (s:(Int×qFa×qFa×qFa×qFa×Int)×qFb×Nat×qFb×Nat×qFb×Nat×qFb×Nat)=>zv F (q8 F) x2 x18 x7 k s.1) ((0,x41,x44,x49,x14,iadd .i64 x17 1),a6,c7,a9,c10,a50,c51,a15,c16) F ?_
      intro k0
      rintro ⟨⟨x9,x10,x12,x13,x15,x16⟩,a5,c5,a7,c6,a8,c8,a10,c9⟩
      try dsimp only
      refine qbW (m':=va F (q8 F) x2 x18 x7 (zv F (q8 F) x2 x18 x7 k0) x9 x10 x12 x13 x15 x16) rfl ?_
      refine kD ?_
      refine qW ?_
      refine qoX rfl rfl rfl rfl ?_
      refine zK ?_
      refine zF ?_
      refine kD ?_
      refine qkv rfl (fun h0=>?_) (fun h0=>?_)
      · refine qh5 ?_
        refine zF ?_
        refine qj [0,1,49,50,51] [] [] [0,1] (fun (((x19,x20,x21,x22,x23),a11,c11,a13,c12,a14,c14,a16,c15):(qFa×qFa×qFa×qFa×Int)×qFb×Nat×qFb×Nat×qFb×Nat×qFb×Nat)=>([],[⟨g1,183,[qFd a3 x2 c4.1,qFd a11 x19 c11,qFd a13 x20 c12,qFd a14 x21 c14,qFd a16 x22 c15,qFc x23]⟩],[qFg a11 x19 c11,qFg a13 x20 c12,qFg a14 x21 c14,qFg a16 x22 c15],[],zI F (zv F (q8 F) x2 x18 x7 k0) x9 x19 x20 x21 x22 x23)) ?_ ?_
        · refine qg3 ?_
          refine kD ?_
          refine qW ?_
          refine ja (j:=0) (qD .i64) (by decide) rfl underlying56 tf3 rfl rfl rfl rfl (fun x24 e1 b1 o1=>?_)
          refine qii (j:=0) rfl rfl tf3 rfl rfl (fun _=>rfl) rfl rfl ?_
          refine kO rfl rfl rfl ?_
          refine zK ?_
          refine zF ?_
          refine qg3 ?_
          refine kD ?_
          refine qW ?_
          refine q9 rfl rfl rfl ?_
          refine km rfl rfl rfl ?_
          refine qY rfl rfl ff183_1 rfl ?_
          refine zX (i:=0) rfl rfl tf56 rfl rfl (fun _=>rfl) rfl rfl ?_
          refine q9 rfl rfl rfl ?_
          refine qcX (j:=0) rfl underlying56 tf3 rfl rfl rfl rfl (fun x25 e2 g2 h1=>?_)
          refine kJ (j:=0) (y:=x25) (qD .i64) rfl rfl tf3 rfl h1 (qw e2).2.2 (fun _=>rfl) rfl rfl ?_
          refine qtS rfl rfl rfl rfl ?_
          refine kO rfl rfl rfl ?_
          refine zK ?_
          refine zF ?_
          refine qkv rfl (fun h2=>?_) (fun h2=>?_)
          · refine kD ?_
            refine qW ?_
            refine q9 rfl rfl rfl ?_
            refine q9 rfl rfl rfl ?_
            refine qc5 EnC.e rfl rfl rfl (fun x26 e3=>ih g1 x2 a3 c4 x10 a5 c5 x12 a7 c6 x13 a8 c8 x15 a10 c9 x16 x24 x26 e3) (.cons 0 rfl .nil) (.cons 0 rfl (.cons 0 rfl (.cons 0 rfl (.cons 0 rfl .nil)))) (.consF 2 rfl .nil) (fun x26 e3=>?_)
            rintro ⟨⟨a17,c17⟩,⟨a18,c18⟩,⟨a19,c19⟩,a20,c20⟩
            refine zK ?_
            refine zF ?_
            refine qce (j:=1) rfl (fun x27 e4 g3 h3=>?_)
            replace h3:a18=some ⟨g3,0,none⟩:=h3
            have h4:=zP (k:=x26.2.1.length) (c:=c18) h3
            refine qce (j:=1) rfl (fun x28 e5 g4 h5=>?_)
            replace h5:a18=some ⟨g4,0,none⟩:=h5
            have h6:=zP (k:=x26.2.1.length) (c:=c18) h5
            refine qce (j:=1) rfl (fun x29 e6 g5 h7=>?_)
            replace h7:a18=some ⟨g5,0,none⟩:=h7
            have h8:=zP (k:=x26.2.1.length) (c:=c18) h7
            refine kC mixed [21] _ _ (.cons 0 rfl .nil) (qh 0 rfl (qh 1 rfl (qh 2 rfl (qF 1 rfl (qo (qD .i64) e4 h3) (qF 1 rfl (qo (qD .i64) e5 h5) (qF 1 rfl (qo (qD .i64) e6 h7) qg)))))) 22 rfl ?_
            refine qb 0 (qFe g1) rfl rfl rfl (zC rfl) ?_
            refine qb 1 (qFe g1) rfl rfl rfl (zC rfl) ?_
            refine qb 2 (.pointer (some ⟨g1,2,none⟩)) rfl rfl rfl (zi rfl ff183_2) ?_
            refine qC 3 (qFd a18 x26.2.1 c18) rfl rfl rfl (qA (i:=0) rfl tf56 rfl rfl (fun _=>rfl) rfl) ?_
            refine qb 4 (qFc x18) rfl rfl rfl (zC rfl) ?_
            refine qb 5 (qFe g1) rfl rfl rfl (zC rfl) ?_
            refine qb 6 (qFe g1) rfl rfl rfl (zC rfl) ?_
            refine qb 7 (.pointer (some ⟨g1,2,none⟩)) rfl rfl rfl (zi rfl ff183_2) ?_
            refine qC 8 (qFd a18 x26.2.1 c18) rfl rfl rfl (qA (i:=0) rfl tf56 rfl rfl (fun _=>rfl) rfl) ?_
            refine qb 9 (qFc x18) rfl rfl rfl (zC rfl) ?_
            refine zZ (d:=75) (v:=qFd (some ⟨g3,0,none⟩) x26.2.1 c18) rfl (by simp only[qFd,h3] <;> rfl) ?_
            refine qb 10 (.pointer (some ⟨g3,x18.toNat*1,none⟩)) rfl rfl rfl (qbX underlying56 tf3 rfl rfl (qw e4).1 (qcW e4)) ?_
            refine zZ (d:=75) (v:=qFd a18 x26.2.1 c18) rfl (by simp only[qFd,h3] <;> rfl) ?_
            refine qz 11 (qFc x27) [[21]] rfl rfl rfl (qS (j:=3) rfl tf3 rfl rfl (fun _=>rfl) rfl) ?_
            refine qb 12 (qFe g1) rfl rfl rfl (zC rfl) ?_
            refine qb 13 (qFe g1) rfl rfl rfl (zC rfl) ?_
            refine qb 14 (.pointer (some ⟨g1,2,none⟩)) rfl rfl rfl (zi rfl ff183_2) ?_
            refine qC 15 (qFd a18 x26.2.1 c18) rfl rfl rfl (qA (i:=0) rfl tf56 rfl rfl (fun _=>rfl) rfl) ?_
            refine qb 16 (qFc x24) rfl rfl rfl (zC rfl) ?_
            refine zZ (d:=82) (v:=qFd (some ⟨g4,0,none⟩) x26.2.1 c18) rfl (by simp only[qFd,h5] <;> rfl) ?_
            refine qb 17 (.pointer (some ⟨g4,x24.toNat*1,none⟩)) rfl rfl rfl (qbX underlying56 tf3 rfl rfl (qw e5).1 (qcW e5)) ?_
            refine zZ (d:=82) (v:=qFd a18 x26.2.1 c18) rfl (by simp only[qFd,h5] <;> rfl) ?_
            refine qz 18 (qFc x28) [[21]] rfl rfl rfl (qS (j:=4) rfl tf3 rfl rfl (fun _=>rfl) rfl) ?_
            refine qb 19 (qFc (imin x27 x28)) rfl rfl rfl (qsz rfl rfl) ?_
            refine zZ (d:=70) (v:=qFd (some ⟨g5,0,none⟩) x26.2.1 c18) rfl (by simp only[qFd,h7] <;> rfl) ?_
            refine qb 20 (.pointer (some ⟨g5,x18.toNat*1,none⟩)) rfl rfl rfl (qbX underlying56 tf3 rfl rfl (qw e6).1 (qcW e6)) ?_
            refine zZ (d:=70) (v:=qFd a18 x26.2.1 c18) rfl (by simp only[qFd,h7] <;> rfl) ?_
            refine qg2 21 rfl (by kernel_rfl) rfl ?_
            refine ky (j:=1) (y':=imin x27 x28) (qD .i64) rfl rfl rfl tf3 rfl (zP h7) (qw e6).2.1 rfl (fun x30 e7 h9=>?_)
            have h10:x30.length=x26.2.1.length:=by rw[← e7,qCw]
            refine qt (d:=70) (v:=qFd a18 x30 c18) rfl h9 ?_
            refine qt (d:=75) (v:=qFd a18 x30 c18) rfl h9 ?_
            refine qt (d:=82) (v:=qFd a18 x30 c18) rfl h9 ?_
            refine q7 (i:=0) (cs':=[qFd a3 x2 c4.1,qFd a17 x26.1 c17,qFd a18 x30 c18,qFd a19 x26.2.2.1 c19,qFd a20 x26.2.2.2.1 c20,qFc x26.2.2.2.2]) rfl (by simp only[qFd,h9] <;> rfl) ?_
            refine zK ?_
            refine kZ 21 rfl (by kernel_rfl) (.cons 0 (by simp only[qFd,h10] <;> rfl) .nil) ?_
            refine qg1 (by kernel_rfl) ?_
            refine qkA ?_ (by intro c h;cases h)
            refine qeL ?_
            refine qeL ?_
            exact yj ((x26.1,x30,x26.2.2.1,x26.2.2.2.1,x26.2.2.2.2),a17,c17,a18,c18,a19,c19,a20,c20) (hB:=(.cons 0 rfl .nil)) (hR:=(.cons 1 rfl (.cons 0 rfl (.cons 0 rfl (.cons 0 rfl .nil))))) (hF:=(qi 1 rfl (qi 2 rfl zJ)))
          · refine kD ?_
            refine qW ?_
            refine q9 rfl rfl rfl ?_
            refine km rfl rfl rfl ?_
            refine qY rfl rfl ff183_4 rfl ?_
            refine zX (i:=0) rfl rfl tf56 rfl rfl (fun _=>rfl) rfl rfl ?_
            refine q9 rfl rfl rfl ?_
            refine qcX (j:=3) rfl underlying56 tf3 rfl rfl rfl rfl (fun x31 e8 g6 h11=>?_)
            refine kJ (j:=3) (y:=x31) (qD .i64) rfl rfl tf3 rfl h11 (qw e8).2.2 (fun _=>rfl) rfl rfl ?_
            refine qoX rfl rfl rfl rfl ?_
            refine kO rfl rfl rfl ?_
            refine zK ?_
            refine zF ?_
            refine qkv rfl (fun h12=>?_) (fun h12=>?_)
            · refine qce (j:=1) rfl (fun x32 e9 g7 h13=>?_)
              replace h13:a7=some ⟨g7,0,none⟩:=h13
              have h14:=zP (k:=x12.length) (c:=c6) h13
              refine qce (j:=0) rfl (fun x34 e10 g8 h15=>?_)
              replace h15:a5=some ⟨g8,0,none⟩:=h15
              have h16:=zP (k:=x10.length) (c:=c5) h15
              refine qce (j:=1) rfl (fun x35 e11 g9 h17=>?_)
              replace h17:a7=some ⟨g9,0,none⟩:=h17
              have h18:=zP (k:=x12.length) (c:=c6) h17
              refine kC mixed [21] _ _ (.cons 0 rfl .nil) (qh 0 rfl (qh 1 rfl (qh 2 rfl (qF 1 rfl (qo (qD .i64) e9 h13) (qF 0 rfl (qo (qD .i64) e10 h15) (qF 1 rfl (qo (qD .i64) e11 h17) qg)))))) 22 rfl ?_
              refine qb 0 (qFe g1) rfl rfl rfl (zC rfl) ?_
              refine qb 1 (qFe g1) rfl rfl rfl (zC rfl) ?_
              refine qb 2 (.pointer (some ⟨g1,2,none⟩)) rfl rfl rfl (zi rfl ff183_2) ?_
              refine qC 3 (qFd a7 x12 c6) rfl rfl rfl (qA (i:=0) rfl tf56 rfl rfl (fun _=>rfl) rfl) ?_
              refine qb 4 (qFc x18) rfl rfl rfl (zC rfl) ?_
              refine qb 5 (qFe g1) rfl rfl rfl (zC rfl) ?_
              refine qb 6 (qFe g1) rfl rfl rfl (zC rfl) ?_
              refine qb 7 (.pointer (some ⟨g1,2,none⟩)) rfl rfl rfl (zi rfl ff183_2) ?_
              refine qC 8 (qFd a7 x12 c6) rfl rfl rfl (qA (i:=0) rfl tf56 rfl rfl (fun _=>rfl) rfl) ?_
              refine qb 9 (qFc x18) rfl rfl rfl (zC rfl) ?_
              refine zZ (d:=105) (v:=qFd (some ⟨g7,0,none⟩) x12 c6) rfl (by simp only[qFd,h13] <;> rfl) ?_
              refine qb 10 (.pointer (some ⟨g7,x18.toNat*1,none⟩)) rfl rfl rfl (qbX underlying56 tf3 rfl rfl (qw e9).1 (qcW e9)) ?_
              refine zZ (d:=105) (v:=qFd a7 x12 c6) rfl (by simp only[qFd,h13] <;> rfl) ?_
              refine qz 11 (qFc x32) [[21]] rfl rfl rfl (qS (j:=3) rfl tf3 rfl rfl (fun _=>rfl) rfl) ?_
              refine qb 12 (qFe g1) rfl rfl rfl (zC rfl) ?_
              refine qb 13 (qFe g1) rfl rfl rfl (zC rfl) ?_
              refine qb 14 (.pointer (some ⟨g1,1,none⟩)) rfl rfl rfl (zi rfl ff183_1) ?_
              refine qC 15 (qFd a5 x10 c5) rfl rfl rfl (qA (i:=0) rfl tf56 rfl rfl (fun _=>rfl) rfl) ?_
              refine qb 16 (qFc x24) rfl rfl rfl (zC rfl) ?_
              refine zZ (d:=112) (v:=qFd (some ⟨g8,0,none⟩) x10 c5) rfl (by simp only[qFd,h15] <;> rfl) ?_
              refine qb 17 (.pointer (some ⟨g8,x24.toNat*1,none⟩)) rfl rfl rfl (qbX underlying56 tf3 rfl rfl (qw e10).1 (qcW e10)) ?_
              refine zZ (d:=112) (v:=qFd a5 x10 c5) rfl (by simp only[qFd,h15] <;> rfl) ?_
              refine qz 18 (qFc x34) [[21]] rfl rfl rfl (qS (j:=4) rfl tf3 rfl rfl (fun _=>rfl) rfl) ?_
              refine qb 19 (qFc (imin x32 x34)) rfl rfl rfl (qsz rfl rfl) ?_
              refine zZ (d:=100) (v:=qFd (some ⟨g9,0,none⟩) x12 c6) rfl (by simp only[qFd,h17] <;> rfl) ?_
              refine qb 20 (.pointer (some ⟨g9,x18.toNat*1,none⟩)) rfl rfl rfl (qbX underlying56 tf3 rfl rfl (qw e11).1 (qcW e11)) ?_
              refine zZ (d:=100) (v:=qFd a7 x12 c6) rfl (by simp only[qFd,h17] <;> rfl) ?_
              refine qg2 21 rfl (by kernel_rfl) rfl ?_
              refine ky (j:=1) (y':=imin x32 x34) (qD .i64) rfl rfl rfl tf3 rfl (zP h17) (qw e11).2.1 rfl (fun x36 e12 h19=>?_)
              have h20:x36.length=x12.length:=by rw[← e12,qCw]
              refine qt (d:=100) (v:=qFd a7 x36 c6) rfl h19 ?_
              refine qt (d:=105) (v:=qFd a7 x36 c6) rfl h19 ?_
              refine q7 (i:=0) (cs':=[qFd a3 x2 c4.1,qFd a5 x10 c5,qFd a7 x36 c6,qFd a8 x13 c8,qFd a10 x15 c9,qFc x16]) rfl (by simp only[qFd,h19] <;> rfl) ?_
              refine zK ?_
              refine kZ 21 rfl (by kernel_rfl) (.cons 0 (by simp only[qFd,h20] <;> rfl) .nil) ?_
              refine qg1 (by kernel_rfl) ?_
              refine qkA ?_ (by intro c h;cases h)
              refine qeL ?_
              refine qeL ?_
              exact yj ((x10,x36,x13,x15,x16),a5,c5,a7,c6,a8,c8,a10,c9) (hB:=(.cons 0 rfl .nil)) (hR:=(.cons 1 rfl (.cons 0 rfl (.cons 0 rfl (.cons 0 rfl .nil))))) (hF:=(qi 1 rfl (qi 2 rfl zJ)))
            · refine qh5 ?_
              refine qeL ?_
              refine qeL ?_
              exact yj ((x10,x12,x13,x15,x16),a5,c5,a7,c6,a8,c8,a10,c9) (hB:=(.cons 0 rfl .nil)) (hR:=(.cons 0 rfl (.cons 0 rfl (.cons 0 rfl (.cons 0 rfl .nil))))) (hF:=(qi 1 rfl (qi 2 rfl zJ)))
        · rintro ⟨⟨x19,x20,x21,x22,x23⟩,a11,c11,a13,c12,a14,c14,a16,c15⟩
          try dsimp only
          refine qW ?_
          refine qk2 rfl rfl rfl rfl ?_
          refine q9 rfl rfl rfl ?_
          refine zK ?_
          exact vF ((iadd .i64 x9 1,x19,x20,x21,x22,x23),a11,c11,a13,c12,a14,c14,a16,c15) (hB:=(.cons 0 rfl .nil)) (hR:=(.cons 0 rfl (.cons 0 rfl (.cons 0 rfl (.cons 0 rfl .nil))))) (hF:=(qi 0 rfl (qi 1 rfl zJ)))
      · refine qqG ?_
        refine qkB ?_
        refine qkB ?_
        refine qqS ?_
        exact yj ((x10,x12,x13,x15,x16),a5,c5,a7,c6,a8,c8,a10,c9) (hB:=(.cons 0 rfl .nil)) (hR:=(.cons 0 rfl (.cons 0 rfl (.cons 0 rfl (.cons 0 rfl .nil))))) (hF:=(qi 1 rfl zJ))
    · rintro ⟨⟨x0,x1,x3,x4,x6⟩,a0,c0,a1,c1,a2,c2,a4,c3⟩
      try dsimp only
      refine kD ?_
      refine qce (j:=1) rfl (fun x38 e13 g10 h21=>?_)
      replace h21:a1=some ⟨g10,0,none⟩:=h21
      have h22:=zP (k:=x1.length) (c:=c1) h21
      refine qce (j:=0) rfl (fun x39 e14 g11 h23=>?_)
      replace h23:a0=some ⟨g11,0,none⟩:=h23
      have h24:=zP (k:=x0.length) (c:=c0) h23
      refine kC mixed [] _ _ (.cons 0 rfl .nil) (qh 0 rfl (qF 1 rfl (qo (qD .i64) e13 h21) (qF 0 rfl (qo (qD .i64) e14 h23) qg))) 15 rfl ?_
      refine qb 0 (qFe g1) rfl rfl rfl (zC rfl) ?_
      refine qb 1 (qFe g1) rfl rfl rfl (zC rfl) ?_
      refine qb 2 (.pointer (some ⟨g1,2,none⟩)) rfl rfl rfl (zi rfl ff183_2) ?_
      refine qC 3 (qFd a1 x1 c1) rfl rfl rfl (qA (i:=0) rfl tf56 rfl rfl (fun _=>rfl) rfl) ?_
      refine qb 4 (qFc x18) rfl rfl rfl (zC rfl) ?_
      refine zZ (d:=122) (v:=qFd (some ⟨g10,0,none⟩) x1 c1) rfl (by simp only[qFd,h21] <;> rfl) ?_
      refine qb 5 (.pointer (some ⟨g10,x18.toNat*1,none⟩)) rfl rfl rfl (qbX underlying56 tf3 rfl rfl (qw e13).1 (qcW e13)) ?_
      refine zZ (d:=122) (v:=qFd a1 x1 c1) rfl (by simp only[qFd,h21] <;> rfl) ?_
      refine qz 6 (qFc x38) [] rfl rfl rfl (qS (j:=1) rfl tf3 rfl rfl (fun _=>rfl) rfl) ?_
      refine qb 7 (qFe g1) rfl rfl rfl (zC rfl) ?_
      refine qb 8 (qFe g1) rfl rfl rfl (zC rfl) ?_
      refine qb 9 (.pointer (some ⟨g1,1,none⟩)) rfl rfl rfl (zi rfl ff183_1) ?_
      refine qC 10 (qFd a0 x0 c0) rfl rfl rfl (qA (i:=0) rfl tf56 rfl rfl (fun _=>rfl) rfl) ?_
      refine qb 11 (qFc x18) rfl rfl rfl (zC rfl) ?_
      refine zZ (d:=129) (v:=qFd (some ⟨g11,0,none⟩) x0 c0) rfl (by simp only[qFd,h23] <;> rfl) ?_
      refine qb 12 (.pointer (some ⟨g11,x18.toNat*1,none⟩)) rfl rfl rfl (qbX underlying56 tf3 rfl rfl (qw e14).1 (qcW e14)) ?_
      refine zZ (d:=129) (v:=qFd a0 x0 c0) rfl (by simp only[qFd,h23] <;> rfl) ?_
      refine qz 13 (qFc x39) [] rfl rfl rfl (qS (j:=2) rfl tf3 rfl rfl (fun _=>rfl) rfl) ?_
      refine qb 14 (.bool ((x38:Int) == x39)) rfl rfl rfl (zC rfl) ?_
      refine qg1 (by kernel_rfl) ?_
      refine qkA ?_ (by intro c h;cases h)
      refine zF ?_
      refine qkv rfl (fun h25=>?_) (fun h25=>?_)
      · refine qW ?_
        refine q9 rfl rfl rfl ?_
        refine q9 rfl rfl rfl ?_
        refine qc5 EnC.e rfl rfl rfl (fun x40 e15=>qhA F g1 x2 a3 c4 x0 a0 c0 x1 a1 c1 x3 a2 c2 x4 a4 c3 x6 x18 x40 e15) (.cons 0 rfl .nil) (.cons 0 rfl (.cons 0 rfl (.cons 0 rfl (.cons 0 rfl .nil)))) (.consF 0 rfl .nil) (fun x40 e15=>?_)
        rintro ⟨⟨a21,c21⟩,⟨a22,c22⟩,⟨a23,c23⟩,a24,c24⟩
        refine zK ?_
        exact yG ((a21,c21),(a22,c22),(a23,c23),a24,c24) (res0 rfl) (hB:=fun h=>by subst h;exact (.cons 0 rfl .nil)) (hR:=fun h=>by subst h;exact (.cons 0 rfl (.cons 0 rfl (.cons 0 rfl (.cons 0 rfl .nil)))))
      · refine qh5 ?_
        exact yG ((a0,c0),(a1,c1),(a2,c2),a4,c3) (res0 rfl) (hB:=fun h=>by subst h;exact (.cons 0 rfl .nil)) (hR:=fun h=>by subst h;exact (.cons 0 rfl (.cons 0 rfl (.cons 0 rfl (.cons 0 rfl .nil)))))
end Go.Proofs.YthibchijlpflmaaGreatDoor
