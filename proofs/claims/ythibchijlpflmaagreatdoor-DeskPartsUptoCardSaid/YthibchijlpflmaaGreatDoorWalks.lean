/- Each Go function of this seat computes what its model says. -/
import Derived.Test.YthibchijlpflmaaGreatDoorRows
import Derived.Test.YthibchijlpflmaaGreatDoorModels
import Derived.Test.YthibchijlpflmaaGreatDoorShelf
import Derived.Test.YthibchijlpflmaaGreatDoorTxt
open List renaming replicate→qCo, length_set→qCJ
namespace Go.Proofs.YthibchijlpflmaaGreatDoor
open Go SX
open Go.Proofs.Tryz
open Go.Proofs.Tryz renaming prog→qFv
abbrev qFw (f:FuncId)(vs:List Value)(s:List (World→Prop))(v:Value):Prop:=Pure qFv f vs s Unit (fun _=>v) (fun _=>[]) (fun _=>[])
set_option maxHeartbeats 4000000
set_option linter.unusedSimpArgs false
variable {F t1:Nat}{p1:List (qFm)}{l1:qFn}{n1:List (qFn×Nat)}{i1 i2 i3 i4:Int}{m1 m2:qFm}
def eN56 (p:qFm×qFn×Nat):List Value:=[qFp p.2.1 p.1 p.2.2]
def iN56 (p:qFm×qFn×Nat):List (World→Prop):=[qFr p.2.1 p.1 p.2.2]
theorem qp:EncOk eN56 1:=⟨fun _=>rfl,fun _=>rfl⟩
def rN56 (p:qFm×qFn×Nat):List RowF:=[FoR (eI .i64) 3 1 (qFp p.2.1 p.1 p.2.2) p.1]
theorem qeC:∀ p,iN56 p=(rN56 p).map RowF.cells:=fun _=>rfl
theorem qw5:∀ f∈rN56 (([]:qFm),((none,0):qFn×Nat)),f.v=.slice none 0 0∧f.n=0∧f.cs=[]:=by simp[rN56,FoR]
def eS63 (p:(Int×Int)):List Value:=[qFo p.1,qFo p.2]
theorem qez:EncOk eS63 2:=⟨fun _=>rfl,fun _=>rfl⟩
def eS209 (p:(Int×Int)):List Value:=[qFo p.1,qFo p.2]
theorem qgT:EncOk eS209 2:=⟨fun _=>rfl,fun _=>rfl⟩
instance tf3:TyF qFv 3 false (qFo 0) 1 8:=.of
instance tf4:TyF qFv 4 false (.bool false) 1 1:=.of
instance tf5:TyF qFv 5 false (.int .u8 0) 1 1:=.of
instance tf9:TyF qFv 9 false (.string (bstr ([]:qFm))) 1 16:=.of
instance tf22:TyF qFv 22 false (.slice none 0 0) 1 24:=.of
instance tf24:TyF qFv 24 true (.agg #[.slice none 0 0]) 1 24:=.of
instance tf26:TyF qFv 26 true (.agg #[qFo 0,qFo 0,qFo 0]) 3 24:=.of
instance tf28:TyF qFv 28 true (.agg #[.slice none 0 0,qFo 0,qFo 0,qFo 0]) 4 48:=.of
instance:TyF qFv 41 false (.slice none 0 0) 1 24:=.of
instance:TyF qFv 48 true (.agg #[.pointer none,.slice none 0 0]) 2 32:=.of
instance tf56:TyF qFv 56 false (.slice none 0 0) 1 24:=.of
instance:TyF qFv 58 false (.slice none 0 0) 1 24:=.of
instance tf63:TyF qFv 63 true (.agg #[qFo 0,qFo 0]) 2 16:=.of
instance tf65:TyF qFv 65 true (.agg #[qFo 0,.slice none 0 0]) 2 32:=.of
instance tf67:TyF qFv 67 true (.agg #[qFo 0,qFo 0,qFo 0,qFo 0,qFo 0,.slice none 0 0]) 6 64:=.of
instance tf69:TyF qFv 69 true (.agg #[qFo 0,qFo 0,qFo 0,qFo 0,.slice none 0 0,qFo 0,.slice none 0 0]) 7 88:=.of
instance tf71:TyF qFv 71 true (.agg #[qFo 0,qFo 0,qFo 0,qFo 0,qFo 0,.slice none 0 0,qFo 0,qFo 0,qFo 0,qFo 0,.slice none 0 0,qFo 0,.slice none 0 0]) 13 152:=.of
instance:TyF qFv 83 false (.pointer none) 1 8:=.of
instance:TyF qFv 86 false (.nilFunc) 1 8:=.of
instance tf88:TyF qFv 88 true (.agg #[qFo 0,.nilFunc]) 2 16:=.of
instance:TyF qFv 107 false (.nilFunc) 1 8:=.of
instance tf119:TyF qFv 119 false (.int .u64 0) 1 8:=.of
instance tf156:TyF qFv 156 true (.agg #[]) 0 0:=.of
instance tf188:TyF qFv 188 true (.agg #[qFo 0,qFo 0,qFo 0]) 3 24:=.of
instance tf204:TyF qFv 204 false (.slice none 0 0) 1 24:=.of
instance tf209:TyF qFv 209 true (.agg #[qFo 0,qFo 0]) 2 16:=.of
instance:TyF qFv 247 true (.agg #[qFo 0,qFo 0,.slice none 0 0]) 3 40:=.of
instance:TyF qFv 293 false (.pointer none) 1 8:=.of
instance tf310:TyF qFv 310 true (.agg #[]) 0 0:=.of
instance:FdF qFv 24 0 0:=.of
instance ff26_0:FdF qFv 26 0 0:=.of
instance:FdF qFv 26 1 1:=.of
instance:FdF qFv 26 2 2:=.of
instance:FdF qFv 28 0 0:=.of
instance:FdF qFv 28 1 1:=.of
instance:FdF qFv 63 0 0:=.of
instance:FdF qFv 63 1 1:=.of
instance:FdF qFv 65 0 0:=.of
instance:FdF qFv 65 1 1:=.of
instance:FdF qFv 67 0 0:=.of
instance ff67_1:FdF qFv 67 1 1:=.of
instance ff67_2:FdF qFv 67 2 4:=.of
instance:FdF qFv 69 0 0:=.of
instance:FdF qFv 69 1 1:=.of
instance:FdF qFv 69 2 2:=.of
instance:FdF qFv 69 3 3:=.of
instance:FdF qFv 69 4 5:=.of
instance ff71_0:FdF qFv 71 0 0:=.of
instance ff71_1:FdF qFv 71 1 6:=.of
instance:FdF qFv 85 0 0:=.of
instance:FdF qFv 85 1 4:=.of
instance:FdF qFv 85 2 5:=.of
instance:FdF qFv 88 0 0:=.of
instance:FdF qFv 88 1 1:=.of
instance:FdF qFv 137 0 0:=.of
instance:FdF qFv 137 1 1:=.of
instance:FdF qFv 169 0 0:=.of
instance:FdF qFv 169 1 6:=.of
instance:FdF qFv 169 2 7:=.of
instance ff174_0:FdF qFv 174 0 0:=.of
instance ff174_1:FdF qFv 174 1 13:=.of
instance ff183_0:FdF qFv 183 0 0:=.of
instance ff183_1:FdF qFv 183 1 1:=.of
instance ff183_2:FdF qFv 183 2 2:=.of
instance ff183_3:FdF qFv 183 3 3:=.of
instance ff183_4:FdF qFv 183 4 4:=.of
instance ff183_5:FdF qFv 183 5 5:=.of
instance:FdF qFv 209 0 0:=.of
instance:FdF qFv 209 1 1:=.of
instance:FdF qFv 247 0 0:=.of
instance:FdF qFv 247 1 1:=.of
instance:FdF qFv 263 0 0:=.of
instance:FdF qFv 263 1 2:=.of
instance:FdF qFv 299 0 0:=.of
instance:FdF qFv 302 0 0:=.of
instance:FdF qFv 302 1 2:=.of
instance:FdF qFv 316 0 0:=.of
instance:FdF qFv 316 1 2:=.of
instance:FdF qFv 359 0 0:=.of
instance:FdF qFv 359 1 1:=.of
instance:FdF qFv 363 0 0:=.of
instance:FdF qFv 363 1 1:=.of
instance:FdF qFv 363 2 2:=.of
instance st24:StF qFv 24 [(0,1)] (.agg #[.slice none 0 0]):=.of
instance st26:StF qFv 26 [(0,1),(1,1),(2,1)] (.agg #[qFo 0,qFo 0,qFo 0]):=.of
instance st28:StF qFv 28 [(0,1),(1,3)] (.agg #[.slice none 0 0,qFo 0,qFo 0,qFo 0]):=.of
instance st63:StF qFv 63 [(0,1),(1,1)] (.agg #[qFo 0,qFo 0]):=.of
instance st65:StF qFv 65 [(0,1),(1,1)] (.agg #[qFo 0,.slice none 0 0]):=.of
instance:StF qFv 67 [(0,1),(1,3),(4,2)] (.agg #[qFo 0,qFo 0,qFo 0,qFo 0,qFo 0,.slice none 0 0]):=.of
instance:StF qFv 69 [(0,1),(1,1),(2,1),(3,2),(5,2)] (.agg #[qFo 0,qFo 0,qFo 0,qFo 0,.slice none 0 0,qFo 0,.slice none 0 0]):=.of
instance:StF qFv 71 [(0,6),(6,7)] (.agg #[qFo 0,qFo 0,qFo 0,qFo 0,qFo 0,.slice none 0 0,qFo 0,qFo 0,qFo 0,qFo 0,.slice none 0 0,qFo 0,.slice none 0 0]):=.of
instance:StF qFv 85 [(0,4),(4,1),(5,1)] (.agg #[.slice none 0 0,qFo 0,qFo 0,qFo 0,.slice none 0 0,.string (bstr ([]:qFm))]):=.of
instance:StF qFv 88 [(0,1),(1,1)] (.agg #[qFo 0,.nilFunc]):=.of
instance:StF qFv 137 [(0,1),(1,1)] (.agg #[.slice none 0 0,.slice none 0 0]):=.of
instance:StF qFv 156 [] (.agg #[]):=.of
instance:StF qFv 169 [(0,6),(6,1),(7,1)] (.agg #[qFo 0,qFo 0,qFo 0,qFo 0,qFo 0,.slice none 0 0,.slice none 0 0,.slice none 0 0]):=.of
instance:StF qFv 174 [(0,13),(13,1)] (.agg #[qFo 0,qFo 0,qFo 0,qFo 0,qFo 0,.slice none 0 0,qFo 0,qFo 0,qFo 0,qFo 0,.slice none 0 0,qFo 0,.slice none 0 0,qFo 0]):=.of
instance:StF qFv 183 [(0,1),(1,1),(2,1),(3,1),(4,1),(5,1)] (.agg #[.slice none 0 0,.slice none 0 0,.slice none 0 0,.slice none 0 0,.slice none 0 0,qFo 0]):=.of
instance:StF qFv 209 [(0,1),(1,1)] (.agg #[qFo 0,qFo 0]):=.of
instance:StF qFv 247 [(0,1),(1,2)] (.agg #[qFo 0,qFo 0,.slice none 0 0]):=.of
instance:StF qFv 263 [(0,2),(2,1)] (.agg #[qFo 0,.slice none 0 0,qFo 0]):=.of
instance st299:StF qFv 299 [(0,2)] (.agg #[qFo 0,.slice none 0 0]):=.of
instance:StF qFv 302 [(0,2),(2,1)] (.agg #[qFo 0,.slice none 0 0,qFo 0]):=.of
instance:StF qFv 310 [] (.agg #[]):=.of
instance:StF qFv 316 [(0,2),(2,1)] (.agg #[qFo 0,.slice none 0 0,.bool false]):=.of
instance:StF qFv 359 [(0,1),(1,1)] (.agg #[qFo 0,.bool false]):=.of
instance:StF qFv 363 [(0,1),(1,1),(2,1)] (.agg #[.slice none 0 0,.bool false,qFo 0]):=.of
instance se63:StE2 qFv 63 .i64 .i64:=⟨_,_,underlying63,by kernel_rfl,by kernel_rfl,by decide,by decide,rfl,rfl,underlying3,underlying3⟩
instance:StE3 qFv 26 .i64 .i64 .i64:=⟨_,_,_,underlying26,by kernel_rfl,by kernel_rfl,by decide,by decide,by decide,rfl,rfl,rfl,underlying3,underlying3,underlying3⟩
theorem mixed:qFv.follows .mixedOrders=true:=by kernel_rfl
instance:EnC qFv 10:=.of func10
instance:EnC qFv 13:=.of func13
instance:EnC qFv 14:=.of func14
instance:EnC qFv 16:=.of func16
instance:EnC qFv 19:=.of func19
instance:EnC qFv 20:=.of func20
instance:EnC qFv 21:=.of func21
instance:EnC qFv 22:=.of func22
instance:EnC qFv 23:=.of func23
instance:EnC qFv 24:=.of func24
instance:EnC qFv 25:=.of func25
instance:EnC qFv 26:=.of func26
instance:EnC qFv 28:=.of func28
instance:EnC qFv 43:=.of func43
instance:EnC qFv 44:=.of func44
instance:EnC qFv 46:=.of func46
instance:EnC qFv 49:=.of func49
instance:EnC qFv 58:=.of func58
instance:EnC qFv 59:=.of func59
instance:EnC qFv 60:=.of func60
instance:EnC qFv 61:=.of func61
instance:EnC qFv 62:=.of func62
instance:EnC qFv 63:=.of func63
instance:EnC qFv 64:=.of func64
instance:EnC qFv 65:=.of func65
instance:EnC qFv 66:=.of func66
instance:EnC qFv 67:=.of func67
instance:EnC qFv 68:=.of func68
instance:EnC qFv 69:=.of func69
instance:EnC qFv 70:=.of func70
instance:EnC qFv 71:=.of func71
instance:EnC qFv 77:=.of func77
instance:EnC qFv 82:=.of func82
instance:EnC qFv 83:=.of func83
instance:EnC qFv 84:=.of func84
instance:EnC qFv 85:=.of func85
instance:EnC qFv 86:=.of func86
instance:EnC qFv 87:=.of func87
instance:EnC qFv 88:=.of func88
instance:EnC qFv 89:=.of func89
instance:EnC qFv 90:=.of func90
instance:EnC qFv 91:=.of func91
instance:EnC qFv 92:=.of func92
instance:EnC qFv 93:=.of func93
instance:EnC qFv 94:=.of func94
instance:EnC qFv 95:=.of func95
instance:EnC qFv 96:=.of func96
instance:EnC qFv 97:=.of func97
instance:EnC qFv 98:=.of func98
instance:EnC qFv 99:=.of func99
instance:EnC qFv 100:=.of func100
instance:EnC qFv 113:=.of func113
instance:EnC qFv 114:=.of func114
instance:EnC qFv 115:=.of func115
instance:EnC qFv 116:=.of func116
instance:EnC qFv 117:=.of func117
instance:EnC qFv 118:=.of func118
instance:EnC qFv 119:=.of func119
instance:EnC qFv 120:=.of func120
instance:EnC qFv 121:=.of func121
instance:EnC qFv 122:=.of func122
instance:EnC qFv 123:=.of func123
instance:EnC qFv 124:=.of func124
instance:EnC qFv 125:=.of func125
instance:EnC qFv 126:=.of func126
instance:EnC qFv 127:=.of func127
instance:EnC qFv 128:=.of func128
instance:EnC qFv 129:=.of func129
instance:EnC qFv 130:=.of func130
instance:EnC qFv 131:=.of func131
instance:EnC qFv 132:=.of func132
instance:EnC qFv 133:=.of func133
instance:EnC qFv 134:=.of func134
instance:EnC qFv 135:=.of func135
instance:EnC qFv 136:=.of func136
instance:EnC qFv 148:=.of func148
instance:EnC qFv 158:=.of func158
instance:EnC qFv 159:=.of func159
instance:EnC qFv 160:=.of func160
instance:EnC qFv 161:=.of func161
instance:EnC qFv 162:=.of func162
instance:EnC qFv 163:=.of func163
instance:EnC qFv 164:=.of func164
instance:EnC qFv 165:=.of func165
instance:EnC qFv 166:=.of func166
instance:EnC qFv 167:=.of func167
instance:EnC qFv 168:=.of func168
instance:EnC qFv 169:=.of func169
instance:EnC qFv 170:=.of func170
instance:EnC qFv 171:=.of func171
instance:EnC qFv 173:=.of func173
instance:EnC qFv 174:=.of func174
instance:EnC qFv 175:=.of func175
instance:EnC qFv 176:=.of func176
instance:EnC qFv 179:=.of func179
instance:EnC qFv 180:=.of func180
instance:EnC qFv 190:=.of func190
instance:EnC qFv 191:=.of func191
instance:EnC qFv 192:=.of func192
instance:EnC qFv 193:=.of func193
instance:EnC qFv 194:=.of func194
instance:EnC qFv 195:=.of func195
instance:EnC qFv 196:=.of func196
instance:EnC qFv 197:=.of func197
instance:EnC qFv 198:=.of func198
instance:EnC qFv 199:=.of func199
instance:EnC qFv 200:=.of func200
instance:EnC qFv 201:=.of func201
instance:EnC qFv 204:=.of func204
instance:EnC qFv 205:=.of func205
instance:EnC qFv 212:=.of func212
instance:EnC qFv 216:=.of func216
instance:EnC qFv 230:=.of func230
instance:EnC qFv 231:=.of func231
instance:EnC qFv 232:=.of func232
instance:EnC qFv 233:=.of func233
instance:EnC qFv 234:=.of func234
instance:EnC qFv 235:=.of func235
instance:EnC qFv 236:=.of func236
instance:EnC qFv 237:=.of func237
instance:EnC qFv 238:=.of func238
instance:EnC qFv 239:=.of func239
instance:EnC qFv 240:=.of func240
instance:EnC qFv 241:=.of func241
instance:EnC qFv 242:=.of func242
instance:EnC qFv 243:=.of func243
instance:EnC qFv 244:=.of func244
instance:EnC qFv 245:=.of func245
instance:EnC qFv 246:=.of func246
instance:EnC qFv 247:=.of func247
instance:EnC qFv 248:=.of func248
instance:EnC qFv 258:=.of func258
instance:EnC qFv 259:=.of func259
instance:EnC qFv 260:=.of func260
instance:EnC qFv 261:=.of func261
instance:EnC qFv 262:=.of func262
instance:EnC qFv 263:=.of func263
instance:EnC qFv 264:=.of func264
instance:EnC qFv 265:=.of func265
instance:EnC qFv 266:=.of func266
instance:EnC qFv 267:=.of func267
instance:EnC qFv 268:=.of func268
instance:EnC qFv 269:=.of func269
instance:EnC qFv 270:=.of func270
instance:EnC qFv 271:=.of func271
instance:EnC qFv 272:=.of func272
instance:EnC qFv 273:=.of func273
instance:EnC qFv 274:=.of func274
instance:EnC qFv 275:=.of func275
instance:EnC qFv 276:=.of func276
instance:EnC qFv 277:=.of func277
instance:EnC qFv 278:=.of func278
instance:EnC qFv 279:=.of func279
instance:EnC qFv 280:=.of func280
instance:EnC qFv 281:=.of func281
instance:EnC qFv 284:=.of func284
instance:EnC qFv 285:=.of func285
instance:EnC qFv 286:=.of func286
instance:EnC qFv 287:=.of func287
instance:EnC qFv 288:=.of func288
instance:EnC qFv 289:=.of func289
instance:EnC qFv 290:=.of func290
instance:EnC qFv 291:=.of func291
instance:EnC qFv 292:=.of func292
instance:EnC qFv 293:=.of func293
instance:EnC qFv 294:=.of func294
instance:EnC qFv 295:=.of func295
instance:EnC qFv 296:=.of func296
instance:EnC qFv 297:=.of func297
instance:EnC qFv 298:=.of func298
instance:EnC qFv 299:=.of func299
instance:EnC qFv 300:=.of func300
instance:EnC qFv 301:=.of func301
instance:EnC qFv 302:=.of func302
instance:EnC qFv 303:=.of func303
instance:EnC qFv 304:=.of func304
instance:EnC qFv 305:=.of func305
instance:EnC qFv 306:=.of func306
instance:EnC qFv 307:=.of func307
theorem qyZ (v:Value)(w:World):(Instr.makeInterface 310 v).run qFv w=.ok (.iface 310 v) w:=by simp[Instr.makeInterface,run_underlying underlying310]
abbrev lostCh:List PanicEntry:=[{ v:=.iface 310 (.agg #[]),recovered:=false }]
theorem qyU (p q:Addr):qmU qFv 243 #[.pointer (some p),.pointer (some q)]:=by
  intro w
  refine callsD_of_wpS func243 rfl fun c₀ cs hu=>?_
  apply wpS_seq
  apply wpS_region
  simp[wpOpsS,go_sem,recoverD,hu,ntmps243,Exit.thenS]
  refine wpS_of_wp ?_
  go_wp2
  cases c₀
  simp_all [bodyPostS,results,Tryz.results243]
theorem quh (w:World):(Instr.typeAssert (.iface 310 (.agg #[])) 20 310 true).run qFv w=.ok (.tuple #[.agg #[],.bool true]) w:=by
  simp[Instr.typeAssert,run_underlying underlying310]
theorem eqn243 (x y:Operand)(w:World):(do eqGuard .eql 20 x y (.iface 310 (.agg #[])) .nilIface;binOp .eql 20 (.iface 310 (.agg #[])) .nilIface:Sem Value).run qFv w=.ok (.bool false) w:=by
  simp[go_sem]
set_option maxRecDepth 100000 in
theorem qjE (g1 g2:Nat)(v1 v2:Value):qmV qFv 243 #[qFq g1,qFq g2] 310 (.agg #[]) [⟨g1,56,[v1]⟩,⟨g2,4,[v2]⟩] [⟨g1,56,[.slice none 0 0]⟩,⟨g2,4,[.bool false]⟩]:=by
  intro w hp
  refine callsD_of_wpS func243 rfl fun c₀ cs hu=>?_
  apply wpS_seq
  apply wpS_region
  simp[wpOpsS,go_sem,recoverD,hu,ntmps243,Exit.thenS]
  refine wpS_of_wp (qhR.1 ?_)
  refine (show SXC qFv none 11 [] (muts [⟨g1,56,[v1]⟩,⟨g2,4,[v2]⟩] []) w _ _ [(0,.pointer (some ⟨g1,0,none⟩)),(1,.pointer (some ⟨g2,0,none⟩)),(5,.iface 310 (.agg #[]))] [⟨g1,56,[v1]⟩,⟨g2,4,[v2]⟩] [] [] (some ()) () from ?_) rfl _ _ ⟨rfl,by simp,fun i v hv=>?_⟩ hp
  · refine qg3 ?_
    refine kE ?_
    refine qU ?_
    refine qqV rfl rfl rfl (eqn243 _ _) rfl ?_
    refine zH ?_
    refine zC ?_
    refine yf (b:=false) rfl (fun h=>by cases h) (fun _=>?_)
    refine kE ?_
    refine qU ?_
    refine qo2 rfl rfl quh rfl ?_
    refine qau rfl rfl rfl rfl ?_
    refine qau rfl rfl rfl rfl ?_
    refine zH ?_
    refine zC ?_
    refine yf (b:=true) rfl (fun _=>?_) (fun h=>by cases h)
    refine kE ?_
    refine qU ?_
    refine qkz rfl tf310 rfl (fun g=>?_)
    refine kP (i:=0) rfl rfl rfl tf310 rfl rfl rfl rfl rfl ?_
    refine zH ?_
    refine zC ?_
    refine qU ?_
    refine kP (i:=1) rfl rfl rfl tf56 rfl rfl rfl rfl rfl ?_
    refine kP (i:=2) rfl rfl rfl tf4 rfl rfl rfl rfl rfl ?_
    refine zH ?_
    refine qeR ?_
    intro _ a w' hf hp'
    exact ⟨hf.defers,_,rfl,_,results_none rfl _ _ _,rfl,rfl,hp'.pick (.cons 1 rfl (.cons 1 rfl .nil)) .nil (by simp)⟩
  · simp only[qal] at hv
    split at hv
    · rename_i h;subst h;simpa using hv
    · split at hv
      · rename_i h;subst h;simpa using hv
      · split at hv
        · rename_i h;subst h;simpa using hv
        · cases hv
theorem qr6 (cb:Array Value):qn9 qFv 160 118 2 (fun l=>.agg l.toArray) cb :=
  quW fun _ _ enc hk h1 cf hO blk cap d w hc hH hb hsz hT=>Go.Proofs.AnyQ.slices_SortFunc_total Tryz.sortf160 2 tf63.run_isAgg tf63.run_size enc hk h1 cf hO 118 cb blk 0 cap d w EnC.e hc hH hb hsz hT
instance:UnF qFv 2 (.int .i64):=⟨underlying2⟩
instance:UnF qFv 3 (.int .i64):=⟨underlying3⟩
instance:UnF qFv 4 .bool:=⟨underlying4⟩
instance:UnF qFv 5 (.int .u8):=⟨underlying5⟩
instance:UnF qFv 9 .string:=⟨underlying9⟩
instance:UnF qFv 22 (.slice 56):=⟨underlying22⟩
instance:UnF qFv 39 (.slice 9):=⟨underlying39⟩
instance:UnF qFv 41 (.slice 5):=⟨underlying41⟩
instance:UnF qFv 56 (.slice 3):=⟨underlying56⟩
instance:UnF qFv 58 (.slice 63):=⟨underlying58⟩
instance:UnF qFv 119 (.int .u64):=⟨underlying119⟩
instance:UnF qFv 196 (.int .u64):=⟨underlying196⟩
instance:UnF qFv 199 (.int .u32):=⟨underlying199⟩
instance:UnF qFv 204 (.slice 209):=⟨underlying204⟩
instance:UnF qFv 211 (.slice 119):=⟨underlying211⟩
theorem stm (c:Nat)(q:List Nat){p:List Nat}{A:Prop}(h:Stp (q++p) A):Stp (c::p) A:=⟨h.go⟩
set_option maxRecDepth 100000 in
theorem au0 (p:List Nat){A B:Prop}(t:B→Stp p A:=by
  intro h
  repeat (first
    | exact stp0 h
    | (refine stc 39 ?_;refine stk (fun h=>h) ?_;try dsimp only)
    | (refine stc 0 ?_;refine stk (fun h=>zH h) ?_)
    | (refine stc 1 ?_;refine stk (fun h=>kE h) ?_)
    | (refine stc 2 ?_;refine stk (fun h=>zC h) ?_)
    | (refine stc 3 ?_;refine stk (fun h=>qU h) ?_)
    | (refine stc 4 ?_;refine stk (fun h=>q7 rfl rfl rfl h) ?_)
    | (refine stc 5 ?_;refine stk (fun h=>kO rfl rfl rfl h) ?_)
    | (refine stc 6 ?_;refine qjO rfl rfl rfl (zy rfl) ?_)
    | (refine stc 7 ?_;refine stk (fun h=>qxY rfl rfl rfl h) ?_)
    | (refine stc 8 ?_;refine stk (fun h=>qo1 h) ?_)
    | (refine stc 9 ?_;refine stk (fun h=>qW rfl rfl inferInstance rfl h) ?_)
    | (refine stc 10 ?_;refine stk (fun h=>qky rfl (And.left h) (And.right h)) ?_)
    | (refine stc 11 ?_;refine stk (fun h=>qh5 h) ?_)
    | (refine stc 12 ?_;refine qzp rfl (by kernel_rfl) rfl ?_)
    | (refine stc 13 ?_;refine stk (fun h=>qvh h) ?_)
    | (refine stc 14 ?_;refine stk (fun h=>qg3 h) ?_)
    | (refine stc 15 ?_;refine qjO rfl rfl rfl (zd rfl inferInstance) ?_)
    | (refine stc 16 ?_;refine stk (fun h=>qg1 (by kernel_rfl) h) ?_)
    | (refine stc 17 ?_;refine stk (fun h=>qkE h) ?_)
    | (refine stc 18 ?_;refine stk (fun h=>zU (i:=0) rfl rfl inferInstance rfl rfl (fun _=>rfl) rfl rfl h) ?_)
    | (refine stc 19 ?_;refine stk (fun h=>qkD h) ?_)
    | (refine stc 20 ?_;refine qzo rfl rfl rfl ?_)
    | (refine stc 21 ?_;refine stk (fun h=>kP (i:=0) rfl rfl rfl inferInstance rfl rfl rfl rfl rfl h) ?_)
    | (refine stc 22 ?_;refine stk (fun h=>qau rfl rfl rfl rfl h) ?_)
    | (refine stc 23 ?_;refine stk (fun h=>qzw rfl rfl rfl h) ?_)
    | (refine stc 24 ?_;first
      | (refine sta 0 ?_;refine stk (fun h=>qk7 rfl rfl rfl rfl h) ?_)
      | (refine sta 1 ?_;exact stz (qx ()))
      | (refine sta 2 ?_;refine stk (fun h=>qeR h) ?_)
      | (refine sta 3 ?_;refine stk (fun h=>qo6 rfl rfl rfl rfl h) ?_)
      | (refine sta 4 ?_;exact stz (qvf))
      | (refine sta 5 ?_;refine stk (fun h=>qkz rfl inferInstance rfl h) ?_)
      | (refine sta 6 ?_;refine stk (fun h=>qo5 rfl UnF.u rfl rfl h) ?_)
      | (refine sta 7 ?_;refine stk (fun h=>qx0 h) ?_)
      | (refine sta 8 ?_;refine stk (fun h=>qxB h) ?_)
      | (refine sta 9 ?_;refine stk (fun h=>zU (i:=0) rfl rfl inferInstance rfl rfl (by simp) rfl rfl h) ?_)
      | (refine sta 10 ?_;refine stk (fun h=>km rfl rfl rfl h) ?_)
      | (refine sta 11 ?_;refine stk (fun h=>qqZ (b:=true) rfl rfl rfl rfl h) ?_)
      | (refine sta 12 ?_;refine stk (fun h=>qqZ (b:=false) rfl rfl rfl rfl h) ?_)
      | (refine sta 13 ?_;refine stk (fun h=>qqP h) ?_)
      | (refine sta 14 ?_;refine stk (fun h=>qq0 h) ?_)
      | (refine sta 15 ?_;refine qjN rfl rfl rfl (qz (i:=0) rfl inferInstance rfl rfl (fun _=>rfl) rfl) ?_))
    | (refine stc 25 ?_;first
      | (refine sta 0 ?_;refine stk (fun h=>qxA h) ?_)
      | (refine sta 1 ?_;refine stk (fun h=>qtZ rfl rfl rfl rfl h) ?_)
      | (refine sta 2 ?_;refine stk (fun h=>qik (j:=0) rfl rfl inferInstance rfl rfl (fun _=>rfl) rfl rfl h) ?_)
      | (refine sta 3 ?_;refine stk (fun h=>qzH rfl rfl rfl rfl h) ?_)
      | (refine sta 4 ?_;refine stk (fun h=>zJ [0] [0] h) ?_)
      | (refine sta 5 ?_;refine stk (fun h=>kP (i:=1) rfl rfl rfl inferInstance rfl rfl rfl rfl rfl h) ?_)
      | (refine sta 6 ?_;refine stk (fun h=>qtY rfl rfl rfl rfl h) ?_)
      | (refine sta 7 ?_;refine stk (fun h=>qzI rfl rfl rfl h) ?_)
      | (refine sta 8 ?_;refine stk (fun h=>qf1 Int (eI .i64) 3 1 h) ?_)
      | (refine sta 9 ?_;refine stk (fun h=>qt2 rfl rfl rfl rfl h) ?_)
      | (refine sta 10 ?_;refine stk (fun h=>zU (i:=1) rfl rfl inferInstance rfl rfl (by simp) rfl rfl h) ?_)
      | (refine sta 11 ?_;refine stk (fun h=>qxL rfl UnF.u UnF.u rfl rfl h) ?_)
      | (refine sta 12 ?_;refine stk (fun h=>zU (i:=1) rfl rfl inferInstance rfl rfl (fun _=>rfl) rfl rfl h) ?_)
      | (refine sta 13 ?_;refine stk (fun h=>qvg h) ?_)
      | (refine sta 14 ?_;exact stz (qK ()))
      | (refine sta 15 ?_;refine stk (fun h=>zU (i:=2) rfl rfl inferInstance rfl rfl (fun _=>rfl) rfl rfl h) ?_))
    | (refine stc 26 ?_;first
      | (refine sta 0 ?_;refine stk (fun h=>qf1 Int (eI .u8) 5 1 h) ?_)
      | (refine sta 1 ?_;refine stk (fun h=>qxV (qC .i64) rfl UnF.u inferInstance rfl rfl rfl rfl rfl rfl rfl h) ?_)
      | (refine sta 2 ?_;refine stk (fun h=>qBx (And.left h) (And.right h)) ?_)
      | (refine sta 3 ?_;refine stk (fun h=>vZ (j:=0) (qC .i64) (by decide) rfl UnF.u inferInstance rfl rfl rfl rfl h) ?_)
      | (refine sta 4 ?_;refine stk (fun h=>qzz rfl rfl rfl rfl h) ?_)
      | (refine sta 5 ?_;refine stk (fun h=>qcX (j:=0) rfl UnF.u inferInstance rfl rfl rfl rfl h) ?_)
      | (refine sta 6 ?_;refine stk (fun h=>qxC h) ?_)
      | (refine sta 7 ?_;refine stk (fun h=>zU (i:=2) rfl rfl inferInstance rfl rfl (by simp) rfl rfl h) ?_)
      | (refine sta 8 ?_;exact stz (qa ((),())))
      | (refine sta 9 ?_;refine qjN rfl rfl rfl (qz (i:=1) rfl inferInstance rfl rfl (fun _=>rfl) rfl) ?_)
      | (refine sta 10 ?_;refine stk (fun h=>qgf Int (eI .i64) 3 1 h) ?_)
      | (refine sta 11 ?_;refine stk (fun h=>qzy h) ?_)
      | (refine sta 12 ?_;refine stk (fun h=>qxT h) ?_)
      | (refine sta 13 ?_;refine stk (fun h=>zJ [1] [0] h) ?_)
      | (refine sta 14 ?_;refine stk (fun h=>zJ [2] [0] h) ?_)
      | (refine sta 15 ?_;refine stk (fun h=>zJ [1,1] [0] h) ?_))
    | (refine stc 27 ?_;first
      | (refine sta 0 ?_;refine stk (fun h=>kP (i:=6) rfl rfl rfl inferInstance rfl rfl rfl rfl rfl h) ?_)
      | (refine sta 1 ?_;refine stk (fun h=>qx2 (qFm) (qFn×Nat) eN56 rN56 56 1 h) ?_)
      | (refine sta 2 ?_;refine stk (fun h=>qi5 (j:=0) qp (by decide) rfl UnF.u inferInstance rfl rfl rfl rfl h) ?_)
      | (refine sta 3 ?_;refine stk (fun h=>qjS rfl rfl rfl rfl rfl h) ?_)
      | (refine sta 4 ?_;refine stk (fun h=>qd qgQ h) ?_)
      | (refine sta 5 ?_;refine stk (fun h=>qo7 rfl rfl rfl h) ?_)
      | (refine sta 6 ?_;refine stk (fun h=>qse 0 rfl h) ?_)
      | (refine sta 7 ?_;refine stk (fun h=>qqO 0 qG rfl h) ?_)
      | (refine sta 8 ?_;refine stk (fun h=>qt qjf h) ?_)
      | (refine sta 9 ?_;refine stk (fun h=>kP (i:=2) rfl rfl rfl inferInstance rfl rfl rfl rfl rfl h) ?_)
      | (refine sta 10 ?_;refine stk (fun h=>qc (.cons 0 rfl (.cons 1 rfl .nil)) (qg 0 rfl (qgV 1 rfl qf)) h) ?_)
      | (refine sta 11 ?_;refine stk (fun h=>qzE rfl rfl rfl rfl h) ?_)
      | (refine sta 12 ?_;refine stk (fun h=>qed Int (eI .i64) 3 1 h) ?_)
      | (refine sta 13 ?_;refine stk (fun h=>qmS rfl rfl rfl h) ?_)
      | (refine sta 14 ?_;refine stk (fun h=>zJ [1] [0,1,2] h) ?_)
      | (refine sta 15 ?_;exact stz (qkC (.cons 0 rfl .nil))))
    | (refine stc 28 ?_;first
      | (refine sta 0 ?_;refine stk (fun h=>qI [] [1,1] [0,1,2] 8 h) ?_)
      | (refine sta 1 ?_;refine stk (fun h=>zJ [1,1] [0,1,2] h) ?_)
      | (refine sta 2 ?_;refine stk (fun h=>qd qmz h) ?_)
      | (refine sta 3 ?_;refine qjO rfl rfl rfl (qBH UnF.u rfl) ?_)
      | (refine sta 4 ?_;refine stk (fun h=>qfY (j:=1) (qC .i64) (by decide) rfl h) ?_)
      | (refine sta 5 ?_;refine stk (fun h=>qzA rfl rfl rfl rfl h) ?_)
      | (refine sta 6 ?_;refine stk (fun h=>qzu h) ?_)
      | (refine sta 7 ?_;refine stk (fun h=>qxD h) ?_)
      | (refine sta 8 ?_;refine stk (fun h=>qxZ h) ?_)
      | (refine sta 9 ?_;refine stk (fun h=>qzv rfl rfl rfl rfl h) ?_)
      | (refine sta 10 ?_;refine stk (fun h=>qzC rfl rfl rfl rfl h) ?_)
      | (refine sta 11 ?_;refine stk (fun h=>qcX (j:=1) rfl UnF.u inferInstance rfl rfl rfl rfl h) ?_)
      | (refine sta 12 ?_;refine qjN rfl rfl rfl (qz (i:=2) rfl inferInstance rfl rfl (fun _=>rfl) rfl) ?_)
      | (refine sta 13 ?_;refine stk (fun h=>zU (i:=3) rfl rfl inferInstance rfl rfl (fun _=>rfl) rfl rfl h) ?_)
      | (refine sta 14 ?_;refine stk (fun h=>qd qq9 h) ?_)
      | (refine sta 15 ?_;refine stk (fun h=>qt qiw h) ?_))
    | (refine stc 29 ?_;first
      | (refine sta 0 ?_;refine stk (fun h=>zI [-1] h) ?_)
      | (refine sta 1 ?_;refine stk (fun h=>vZ (j:=1) (qC .i64) (by decide) rfl UnF.u inferInstance rfl rfl rfl rfl h) ?_)
      | (refine sta 2 ?_;refine stk (fun h=>qqR (j:=1) rfl h) ?_)
      | (refine sta 3 ?_;refine stk (fun h=>qik (j:=0) rfl rfl inferInstance rfl rfl (by simp) rfl rfl h) ?_)
      | (refine sta 4 ?_;refine stk (fun h=>qfY (j:=2) (qC .i64) (by decide) rfl h) ?_)
      | (refine sta 5 ?_;refine stk (fun h=>qd qud h) ?_)
      | (refine sta 6 ?_;refine stk (fun h=>zJ [0,0,0,0,0] [0] h) ?_)
      | (refine sta 7 ?_;refine stk (fun h=>qgf Int (eI .u8) 5 1 h) ?_)
      | (refine sta 8 ?_;refine stk (fun h=>kY 24 rfl (by kernel_rfl) (.cons 0 rfl (.cons 1 rfl .nil)) h) ?_)
      | (refine sta 9 ?_;refine stk (fun h=>qBw (And.left h) (And.right h)) ?_)
      | (refine sta 10 ?_;refine stk (fun h=>qd qn3 h) ?_)
      | (refine sta 11 ?_;refine stk (fun h=>qzD (rin:=rN56) (y:=([]:qFm)) (q:=((none,0):qFn×Nat)) qp (by decide) qw5 rfl UnF.u inferInstance rfl rfl rfl rfl rfl rfl h) ?_)
      | (refine sta 12 ?_;refine stk (fun h=>qqR (j:=0) rfl h) ?_)
      | (refine sta 13 ?_;exact stz (qxH))
      | (refine sta 14 ?_;exact stz (ku (none,0,([]:List (qFn×Nat))) 0))
      | (refine sta 15 ?_;refine stk (fun h=>qfY (j:=0) (qC .i64) (by decide) rfl h) ?_))
    | (refine stc 30 ?_;first
      | (refine sta 0 ?_;refine stk (fun h=>qcb (j:=0) rfl h) ?_)
      | (refine sta 1 ?_;refine stk (fun h=>qu4 (And.left h) (And.right h)) ?_)
      | (refine sta 2 ?_;refine stk (fun h=>kP (i:=3) rfl rfl rfl inferInstance rfl rfl rfl rfl rfl h) ?_)
      | (refine sta 3 ?_;refine stk (fun h=>qd qnS h) ?_)
      | (refine sta 4 ?_;refine stk (fun h=>zJ [1,1] [0,1,2,3] h) ?_)
      | (refine sta 5 ?_;refine stk (fun h=>qxI rfl UnF.u rfl rfl rfl h) ?_)
      | (refine sta 6 ?_;refine stk (fun h=>zJ [0,0] [0] h) ?_)
      | (refine sta 7 ?_;refine stk (fun h=>qt qpy h) ?_)
      | (refine sta 8 ?_;refine stk (fun h=>qim (i:=3) rfl h) ?_)
      | (refine sta 9 ?_;refine stk (fun h=>qd qkS h) ?_)
      | (refine sta 10 ?_;refine stk (fun h=>zJ [0,0] [] h) ?_)
      | (refine sta 11 ?_;refine stk (fun h=>qt qiF h) ?_)
      | (refine sta 12 ?_;refine stk (fun h=>qt qpo h) ?_)
      | (refine sta 13 ?_;refine stk (fun h=>qed Int (eI .u8) 5 1 h) ?_)
      | (refine sta 14 ?_;refine stk (fun h=>qd qnW h) ?_)
      | (refine sta 15 ?_;refine stk (fun h=>qd qpp h) ?_))
    | (refine stc 31 ?_;first
      | (refine sta 0 ?_;refine stk (fun h=>qd qgi h) ?_)
      | (refine sta 1 ?_;refine stk (fun h=>zJ [0] [0,1] h) ?_)
      | (refine sta 2 ?_;refine stk (fun h=>zJ [0,0,0] [0,1,2,3] h) ?_)
      | (refine sta 3 ?_;refine stk (fun h=>qxQ rfl UnF.u rfl rfl rfl h) ?_)
      | (refine sta 4 ?_;refine stk (fun h=>qd qrb h) ?_)
      | (refine sta 5 ?_;refine stk (fun h=>zA 0 (qC .i64) rfl UnF.u inferInstance rfl rfl rfl rfl rfl (.inr ⟨0,rfl⟩) rfl rfl h) ?_)
      | (refine sta 6 ?_;refine stk (fun h=>qd qg5 h) ?_)
      | (refine sta 7 ?_;refine stk (fun h=>qxR (j:=0) rfl UnF.u inferInstance rfl rfl rfl rfl h) ?_)
      | (refine sta 8 ?_;refine stk (fun h=>qt qhC h) ?_)
      | (refine sta 9 ?_;refine stk (fun h=>vZ (j:=0) qez (by decide) rfl UnF.u inferInstance rfl rfl rfl rfl h) ?_)
      | (refine sta 10 ?_;refine stk (fun h=>qc .nil (qg 0 rfl (qg 1 rfl (qg 2 rfl (qgV 0 rfl qf)))) h) ?_)
      | (refine sta 11 ?_;refine stk (fun h=>qo9 rfl rfl rfl rfl rfl h) ?_)
      | (refine sta 12 ?_;refine stk (fun h=>zU (i:=3) rfl rfl inferInstance rfl rfl (by simp) rfl rfl h) ?_)
      | (refine sta 13 ?_;refine stk (fun h=>qd qjk h) ?_)
      | (refine sta 14 ?_;refine stk (fun h=>qc .nil (qgV 0 rfl qf) h) ?_)
      | (refine sta 15 ?_;refine stk (fun h=>qd qeH h) ?_))
    | (refine stc 32 ?_;first
      | (refine sta 0 ?_;refine qjN rfl rfl rfl (qz (i:=3) rfl inferInstance rfl rfl (fun _=>rfl) rfl) ?_)
      | (refine sta 1 ?_;refine stk (fun h=>vZ (j:=0) qgT (by decide) rfl UnF.u inferInstance rfl rfl rfl rfl h) ?_)
      | (refine sta 2 ?_;refine stk (fun h=>qxE h) ?_)
      | (refine sta 3 ?_;refine stk (fun h=>qt qrf h) ?_)
      | (refine sta 4 ?_;exact stz (ku (none,0) 1))
      | (refine sta 5 ?_;refine stk (fun h=>qd qnK h) ?_)
      | (refine sta 6 ?_;refine stk (fun h=>ky 0 _ rfl rfl rfl (zy rfl) rfl h) ?_)
      | (refine sta 7 ?_;refine stk (fun h=>ky 1 _ rfl rfl rfl (zy rfl) rfl h) ?_)
      | (refine sta 8 ?_;refine stk (fun h=>ky 2 _ rfl rfl rfl (zd rfl inferInstance) rfl h) ?_)
      | (refine sta 9 ?_;refine stk (fun h=>ky 4 _ rfl rfl rfl (zy rfl) rfl h) ?_)
      | (refine sta 10 ?_;refine stk (fun h=>zJ [0,0,0,0] [0] h) ?_)
      | (refine sta 11 ?_;refine stk (fun h=>zJ [0,0] [0,1] h) ?_)
      | (refine sta 12 ?_;refine stk (fun h=>qd qnM h) ?_)
      | (refine sta 13 ?_;refine stk (fun h=>qu9 rfl UnF.u rfl rfl rfl h) ?_)
      | (refine sta 14 ?_;refine stk (fun h=>yf rfl (And.left h) (And.right h)) ?_)
      | (refine sta 15 ?_;refine stk (fun h=>qI [] [0,0] [0,1,2] 8 h) ?_))
    | (refine stc 33 ?_;first
      | (refine sta 0 ?_;refine stk (fun h=>qd qg4 h) ?_)
      | (refine sta 1 ?_;refine stk (fun h=>qu1 0 rfl h) ?_)
      | (refine sta 2 ?_;refine stk (fun h=>qt qgh h) ?_)
      | (refine sta 3 ?_;refine stk (fun h=>qt qpr h) ?_)
      | (refine sta 4 ?_;refine stk (fun h=>qt qis h) ?_)
      | (refine sta 5 ?_;refine stk (fun h=>qim (i:=2) rfl h) ?_)
      | (refine sta 6 ?_;refine stk (fun h=>qgf (Int×Int) eS63 63 2 h) ?_)
      | (refine sta 7 ?_;refine stk (fun h=>qd qja h) ?_)
      | (refine sta 8 ?_;exact stz (ku (none,0,([]:List (qFn×Nat))) 1))
      | (refine sta 9 ?_;refine stk (fun h=>qH [] h) ?_)
      | (refine sta 10 ?_;refine stk (fun h=>qt qdU h) ?_)
      | (refine sta 11 ?_;refine stk (fun h=>qt kV h) ?_)
      | (refine sta 12 ?_;refine stk (fun h=>qd qmy h) ?_)
      | (refine sta 13 ?_;refine stk (fun h=>zJ [0] [0,1,2,3] h) ?_)
      | (refine sta 14 ?_;refine stk (fun h=>qzJ rfl rfl rfl rfl rfl h) ?_)
      | (refine sta 15 ?_;refine qjO rfl rfl rfl (qzZ UnF.u UnF.u rfl) ?_))
    | (refine stc 34 ?_;first
      | (refine sta 0 ?_;refine stk (fun h=>qt qra h) ?_)
      | (refine sta 1 ?_;refine stk (fun h=>qt qi9 h) ?_)
      | (refine sta 2 ?_;refine stk (fun h=>zU (i:=4) rfl rfl inferInstance rfl rfl (fun _=>rfl) rfl rfl h) ?_)
      | (refine sta 3 ?_;refine stk (fun h=>qd qpF h) ?_)
      | (refine sta 4 ?_;refine stk (fun h=>qd qpx h) ?_)
      | (refine sta 5 ?_;refine stk (fun h=>kY 18 rfl (by kernel_rfl) (.cons 0 rfl .nil) h) ?_)
      | (refine sta 6 ?_;refine stk (fun h=>qd qj6 h) ?_)
      | (refine sta 7 ?_;refine stk (fun h=>qt qjm h) ?_)
      | (refine sta 8 ?_;refine stk (fun h=>qd qiP h) ?_)
      | (refine sta 9 ?_;refine stk (fun h=>qim (i:=4) rfl h) ?_)
      | (refine sta 10 ?_;refine stk (fun h=>qil rfl rfl rfl rfl rfl h) ?_)
      | (refine sta 11 ?_;refine stk (fun h=>qzK rfl rfl rfl rfl h) ?_)
      | (refine sta 12 ?_;refine stk (fun h=>qd qmK h) ?_)
      | (refine sta 13 ?_;refine stk (fun h=>qd qle h) ?_)
      | (refine sta 14 ?_;exact stz (ku (none,0) 0))
      | (refine sta 15 ?_;refine stk (fun h=>qml 2 rfl h) ?_))
    | (refine stc 35 ?_;first
      | (refine sta 0 ?_;refine stk (fun h=>qd qrg h) ?_)
      | (refine sta 1 ?_;refine stk (fun h=>qt qiT h) ?_)
      | (refine sta 2 ?_;refine stk (fun h=>qd qpB h) ?_)
      | (refine sta 3 ?_;refine stk (fun h=>zJ [0,0] [0,1,2,3] h) ?_)
      | (refine sta 4 ?_;refine stk (fun h=>qI [] [0,0,0] [0] 15 h) ?_)
      | (refine sta 5 ?_;refine stk (fun h=>qt qmB h) ?_)
      | (refine sta 6 ?_;refine stk (fun h=>qI [] [0] [0,1,2] 17 h) ?_)
      | (refine sta 7 ?_;refine stk (fun h=>zJ [0] [0,1,2] h) ?_)
      | (refine sta 8 ?_;refine stk (fun h=>qd qnR h) ?_)
      | (refine sta 9 ?_;exact stz (ku ((none,0),none,0) 1))
      | (refine sta 10 ?_;refine stk (fun h=>qt qiK h) ?_)
      | (refine sta 11 ?_;refine stk (fun h=>qd qnQ h) ?_)
      | (refine sta 12 ?_;refine stk (fun h=>qd qre h) ?_)
      | (refine sta 13 ?_;refine stk (fun h=>qd qpA h) ?_)
      | (refine sta 14 ?_;refine stk (fun h=>qd qnP h) ?_)
      | (refine sta 15 ?_;exact stz (ku ((none,0),(none,0),none,0) 1)))
    | (refine stc 36 ?_;first
      | (refine sta 0 ?_;refine stk (fun h=>qfY (j:=0) (qC .u8) (by decide) rfl h) ?_)
      | (refine sta 1 ?_;refine stk (fun h=>qd qn6 h) ?_)
      | (refine sta 2 ?_;refine stk (fun h=>qBy rfl rfl rfl rfl h) ?_)
      | (refine sta 3 ?_;refine stk (fun h=>qd qjg h) ?_)
      | (refine sta 4 ?_;refine stk (fun h=>qd qkY h) ?_)
      | (refine sta 5 ?_;refine stk (fun h=>qzx rfl UnF.u rfl rfl h) ?_)
      | (refine sta 6 ?_;refine stk (fun h=>qqU (i:=0) (qC .i64) rfl UnF.u inferInstance rfl rfl rfl rfl h) ?_)
      | (refine sta 7 ?_;refine stk (fun h=>qd qmG h) ?_)
      | (refine sta 8 ?_;refine stk (fun h=>qi4 0 rfl h) ?_)
      | (refine sta 9 ?_;refine stk (fun h=>qd qgO h) ?_)
      | (refine sta 10 ?_;exact stz (qkC (.cons 1 rfl .nil)))
      | (refine sta 11 ?_;refine stk (fun h=>ky 5 _ rfl rfl rfl (zy rfl) rfl h) ?_)
      | (refine sta 12 ?_;refine stk (fun h=>ky 6 _ rfl rfl rfl (zy rfl) rfl h) ?_)
      | (refine sta 13 ?_;refine stk (fun h=>ky 7 _ rfl rfl rfl (zy rfl) rfl h) ?_)
      | (refine sta 14 ?_;refine stk (fun h=>ky 8 _ rfl rfl rfl (zd rfl inferInstance) rfl h) ?_)
      | (refine sta 15 ?_;refine stk (fun h=>ky 11 _ rfl rfl rfl (zy rfl) rfl h) ?_))
    | (refine stc 37 ?_;first
      | (refine sta 0 ?_;refine stk (fun h=>ky 12 _ rfl rfl rfl (zy rfl) rfl h) ?_)
      | (refine sta 1 ?_;refine stk (fun h=>ky 18 _ rfl rfl rfl (zy rfl) rfl h) ?_)
      | (refine sta 2 ?_;refine stk (fun h=>zJ [0,0,0,0,0] [0,1] h) ?_)
      | (refine sta 3 ?_;refine stk (fun h=>qd qkF h) ?_)
      | (refine sta 4 ?_;refine stk (fun h=>qI [] [] [0,1,2,3] 9 h) ?_)
      | (refine sta 5 ?_;refine stk (fun h=>qt qnZ h) ?_)
      | (refine sta 6 ?_;refine stk (fun h=>qd que h) ?_)
      | (refine sta 7 ?_;refine stk (fun h=>qd qpu h) ?_)
      | (refine sta 8 ?_;refine stk (fun h=>qd qmH h) ?_)
      | (refine sta 9 ?_;refine stk (fun h=>qt qje h) ?_)
      | (refine sta 10 ?_;refine stk (fun h=>qd qn8 h) ?_)
      | (refine sta 11 ?_;refine stk (fun h=>qd qrl h) ?_)
      | (refine sta 12 ?_;refine stk (fun h=>vZ (j:=2) (qC .i64) (by decide) rfl UnF.u inferInstance rfl rfl rfl rfl h) ?_)
      | (refine sta 13 ?_;refine stk (fun h=>qi5 (j:=2) qp (by decide) rfl UnF.u inferInstance rfl rfl rfl rfl h) ?_)
      | (refine sta 14 ?_;refine stk (fun h=>qt qiH h) ?_)
      | (refine sta 15 ?_;refine stk (fun h=>qI [] [0,0,0] [0,1,2,3] 10 h) ?_))
    | (refine stc 38 ?_;first
      | (refine sta 0 ?_;refine stk (fun h=>zJ [1,0,0] [0,1,2,3] h) ?_)
      | (refine sta 1 ?_;refine stk (fun h=>qI [] [0,0,0] [0,1,2,3] 12 h) ?_)
      | (refine sta 2 ?_;refine stk (fun h=>kY 13 rfl (by kernel_rfl) (.cons 1 rfl (.cons 1 rfl .nil)) h) ?_)
      | (refine sta 3 ?_;refine stk (fun h=>qI [] [0,0,0,0,0] [0] 5 h) ?_)
      | (refine sta 4 ?_;refine stk (fun h=>qd qrc h) ?_)
      | (refine sta 5 ?_;refine stk (fun h=>qI [] [1,1,1,1] [0,1,2] 8 h) ?_)
      | (refine sta 6 ?_;refine stk (fun h=>zJ [1,1,1,1] [0,1,2] h) ?_)
      | (refine sta 7 ?_;refine stk (fun h=>qt qiG h) ?_)
      | (refine sta 8 ?_;refine stk (fun h=>qxX (qFm) (qFn×Nat) eN56 rN56 56 1 h) ?_)
      | (refine sta 9 ?_;refine stk (fun h=>qd qnI h) ?_))
    | apply stm 45 [1,3]
    | apply stm 46 [0,2]
    | apply stm 47 [5,0,2]
    | apply stm 48 [1,3,4]
    | apply stm 49 [5,0,2,8]
    | apply stm 50 [24,7,13]
    | apply stm 51 [24,13,17]
    | apply stm 52 [17,24,14]
    | apply stm 53 [0,24,4]
    | apply stm 54 [16,19]
    | apply stm 55 [24,10,9]
    | apply stm 56 [24,8,1,3]
    | apply stm 57 [11,2]
    | apply stm 58 [5,0,2,8,13]
    | apply stm 59 [5,0,2,1,3,4]
    | apply stm 60 [24,12,0,24,4]
    | apply stm 61 [24,11,0,24,4]
    | apply stm 62 [7,7]
    | apply stm 63 [24,2,2]
    | apply stm 64 [25,0,1,3]
    | apply stm 65 [6,11,16,19]
    | apply stm 66 [24,0,4]
    | apply stm 67 [6,6,6,7]
    | apply stm 68 [7,7,7,7]
    | apply stm 69 [5,0,2,8,24,1]
    | apply stm 70 [6,0,6,1]
    | apply stm 71 [24,13,17,17,24,14]
    | apply stm 72 [0,25,4]
    | apply stm 73 [0,2,14]
    | apply stm 74 [24,6,4]
    | apply stm 75 [6,8,12,10]
    | apply stm 76 [5,0,2,8,13,24,1]
    | apply stm 77 [1,3,24,9]
    | apply stm 78 [9,18]
    | apply stm 79 [22,22]
    | apply stm 80 [5,0,2,1,3]
    | apply stm 81 [5,0,2,1]
    | apply stm 82 [11,2,1]
    | apply stm 83 [11,2,1,14]
    | apply stm 84 [24,6,4,0,2,14]
    | apply stm 85 [24,12,0]
    | apply stm 86 [24,11,0]
    | apply stm 87 [21,0]
    | apply stm 88 [5,0,2,8,25,14]
    | apply stm 89 [4,4]
    | apply stm 90 [24,7,13,13]
    | apply stm 91 [39,1,3,4]
    | apply stm 92 [6,0,6,1,6,2]
    | apply stm 93 [24,0,4,0]
    | apply stm 94 [3,24,0,4,0]
    | apply stm 95 [24,2,2,3,24,0,4,0]
    | apply stm 96 [11,2,1,3]
    | apply stm 97 [0,2,1,3,4]
    | apply stm 98 [9,25,12]
    | apply stm 99 [5,0,2,8,13,25,8]
    | apply stm 100 [6,12,6,13]
    | apply stm 101 [26,10,27,8]
    | apply stm 102 [12,9,24,5]
    | apply stm 103 [24,7,13,24,1]
    | apply stm 104 [25,13,27,15]
    | apply stm 105 [25,1,24,12,0,24,4]
    | apply stm 106 [12,10,21,0]
    | apply stm 107 [27,6,27,7]
    | apply stm 108 [26,6,1,3]
    | apply stm 109 [15,0,24,15,1]
    | apply stm 110 [9,25,15]
    | apply stm 111 [24,8,1,3,23]
    | apply stm 112 [24,10,9,18]
    | apply stm 113 [4,24,0]
    | apply stm 114 [26,0,26,0]
    | apply stm 115 [0,24,2]
    | apply stm 116 [5,26,12]
    | apply stm 117 [39,1,3]
    | apply stm 118 [0,25,4,12,10])):Stv p B A:=⟨fun h=>(t h).go⟩
theorem au (p:List Nat){A B:Prop}(h:B)(t:Stv p B A:=by exact au0 _):A:=t.go h
theorem av (p:List Nat){A B C:Prop}(h:B)(k:C)(t:Stv p (B∧C) A:=by exact au0 _):A:=t.go ⟨h,k⟩
theorem aw (p:List Nat){A B C B' C':Prop}(h:B)(k:C)(t:Stv p ((B'→B)∧(C'→C)) A:=by exact au0 _):A:=t.go ⟨fun _=>h,fun _=>k⟩
theorem az (p:List Nat){A:Prop}(t:Stv p True A:=by exact au0 _):A:=t.go trivial
instance mx:Mx qFv:=⟨mixed⟩
theorem qmz (hm:kQ F p1=some i1) :
    qFw 20 [.agg #[qFp l1 p1 t1]] [SlN eN56 iN56 1 (qFp l1 p1 t1) p1 n1] (qFo i1):=by
 refine pureA func20 ntmps20 hm fun _=>?_
 refine au [64,23] ?_
 intro g4
 refine aw [5,0,2,1,3,9,18,24,6,5,0,2,1,1,3,4,25,1,0,2,10] ?_ ?_
 exact az [45,76]
 refine au [96,47] ?_
 refine qN (fun ((x0,_):Int×Unit)=>([(4,qFo x0)],[],[],[],qdp F x0)) ?_ ?_
 refine au [45,78,84] ?_
 refine qq [3,16,17] [] [] [0] (fun (((x2,x3),_):(Int×Int)×Unit)=>([(4,qFo x2),(18,qFo x3)],[],[],[])) ((0:Int),(0:Int)) () ?_
 intro k0
 rintro ⟨⟨x2,x3⟩,_⟩
 refine aw [39,1,3,24,3,0,2,1,10] ?_ ?_
 refine au [57] ?_
 refine qi [3,16,17,18] [] [] [0] (fun ((x4,_):Int×Unit)=>([(4,qFo x4)],[],[],[],qdq F (vn F p1 k0) x3 x4)) ?_ ?_
 refine au [14,45,27,2] ?_
 intro x5 e0 g0 b0 o0
 refine au [25,2,80,47] ?_
 refine qi [3,4,6,16,17,18] [] [] [1,2] (fun ((_,_):Unit×Unit)=>([],[],[],[],qbF F (vn F p1 k0) x2 x3 x5)) ?_ ?_
 refine au [48,84] ?_
 refine qq [3,4,6,16,17,18,22,23] [] [] [1,2] (fun (((x6,x7),_):(Int×Int)×Unit)=>([(7,qFo x6),(24,qFo x7)],[],[],[])) ((-1:Int),(0:Int)) () ?_
 intro k1
 rintro ⟨⟨x6,x7⟩,_⟩
 refine aw [39,1,3,24,3,0,2,1,10] ?_ ?_
 refine au [83,45,26,3] ?_
 intro x8 e1 b1 o1
 refine au [25,2,81,14,48,24,3,4] ?_
 refine zQ 4 31 35 [3,4,6,7,16,17,18,22,23,24,9] (decide ((p1.length:Int)≤x8)) ?_ ?_ ?_
 exact az [62,7,61]
 exact az [89,26,4,60]
 refine aw [5,0,2,10] ?_ ?_
 exact az [45,49,50,90,50,90,103]
 refine aw [1,3,4,4,28,5,5,0,2,10] ?_ ?_
 exact az [45,49,50,90,50,90,103]
 refine au [11,63,3,4,5,0,95] ?_
 exact qk ((x8,iadd .i64 x7 1),())
 exact az [71,26,8]
 rintro ⟨_,_⟩
 refine au [39,3,89,24,6,24,0,5,115] ?_
 exact qa (iadd .i64 x2 (x5.length:Int),())
 rintro ⟨x4,_⟩
 refine au [39,94] ?_
 exact qk ((x4,iadd .i64 x3 1),())
 refine au [71] ?_
 exact qa (x2,())
 rintro ⟨x0,_⟩
 refine aw [39,1,1,3,4,25,1,0,2,10] ?_ ?_
 exact az [45,76]
 exact az [96,69]
theorem qn3 (hm:vD F i1 i2 i3=some i4) :
    qFw 21 [.agg #[qFo i1,qFo i2,qFo i3]] [] (qFo i4):=by
 refine pureA func21 ntmps21 hm fun _=>?_
 refine au [64,23] ?_
 intro g4
 refine au [81,45,78,24,3,4] ?_
 refine zQ 4 6 10 [1] (decide (7<i1)) ?_ ?_ ?_
 exact az [62,7,61]
 exact az [78,105]
 refine au [4] ?_
 refine zQ 4 11 15 [1] (decide (i2<0)) ?_ ?_ ?_
 exact az [62,7,61]
 exact az [78,24,3,60]
 refine au [4] ?_
 refine zQ 4 16 20 [1] ((i2:Int) == 1) ?_ ?_ ?_
 exact az [62,7,61]
 exact az [78,25,6,60]
 refine au [4] ?_
 refine zQ 4 21 25 [1] (decide (300<i2)) ?_ ?_ ?_
 exact az [62,7,61]
 exact az [78,105]
 refine au [4] ?_
 refine zQ 4 26 30 [1] (decide (i3<1)) ?_ ?_ ?_
 exact az [62,7,61]
 exact az [78,24,3,60]
 refine au [4] ?_
 refine zQ 4 31 35 [] (decide (16<i3)) ?_ ?_ ?_
 exact az [62,7,61]
 exact az [78,105]
 refine aw [0,2,10] ?_ ?_
 exact az [45,76]
 exact az [96,69]
theorem qnM (hm:jA F p1 i1 i2 i3=some i4) :
    qFw 13 [.agg #[qFp l1 p1 t1,qFo i1,qFo i2,qFo i3]] [SlN eN56 iN56 1 (qFp l1 p1 t1) p1 n1] (qFo i4):=by
 refine pureA func13 ntmps13 hm fun _=>?_
 refine au [64,23] ?_
 intro g7
 refine au [81,45,9,24,9,28,2] ?_
 intro x10 e10 _
 refine aw [5,0,2,1,3,4,25,3,0,2,10] ?_ ?_
 exact az [48,76]
 refine au [96,9,24,9,29,10] ?_
 intro x11 e11 _
 exact az [69]
theorem qg4 (hm:kT F m1=some m2) :
    Pure qFv 46 [qFp l1 m1 t1] [qFr l1 m1 t1] (qFn×Nat) (fun g=>qFp g.1 m2 g.2) (fun g=>[qFs g.1 m2 g.2]) (fun _=>[]):=by
 refine pureA func46 ntmps46 hm fun _=>?_
 refine av [64,81,48,32,13,46,32,14] ?_ ?_
 intro h11
 refine qqS 0 (qC .i64) (by decide) rfl h11 (fun h12=>?_)
 subst h12
 refine qbR (m':=some ([]:qFm)) rfl ?_
 refine au [45,99] ?_
 exact qx (none,0)
 intro _
 refine au [96] ?_
 refine zI (k:=.i64) [] ?_
 intro a6 c7
 refine au [4,31,5] ?_
 intro x8 e8 a9 c10
 refine au [49] ?_
 exact qx (a9,c10)
theorem qrc {r:(List (qFm)×Int×Int×Int)}(hm:qfD F p1 i1 i2 i3=some r) :
    Pure qFv 23 [.agg #[qFp l1 p1 t1,qFo i1,qFo i2,qFo i3]] [SlN eN56 iN56 1 (qFp l1 p1 t1) p1 n1] (qFn×Nat×List (qFn×Nat)) (fun g=>.agg #[qFp g.1 r.1 g.2.1,qFo r.2.1,qFo r.2.2.1,qFo r.2.2.2]) (fun g=>[RoN eN56 rN56 56 1 (qFp g.1 r.1 g.2.1) r.1 g.2.2 []]) (fun _=>[]):=by
 refine pureA func23 ntmps23 hm fun _=>?_
 refine au [64,23] ?_
 intro g7
 refine au [24,5] ?_
 intro g8
 refine au [46] ?_
 refine qi [1,2] [0,1] [] [0] (fun ((x20,g17,a18,c19):List (qFm)×Nat×qFn×Nat×List (qFn×Nat))=>([(3,qFq g17)],[⟨g17,28,[qFp a18 x20 c19.1,qFo i1,qFo i2,qFo i3]⟩],[RoN eN56 rN56 56 1 (qFp a18 x20 c19.1) x20 c19.2 []],[],qgn F p1 i1 i2 i3 x20)) ?_ ?_
 refine qI [] [0,0] [0] 11 ?_
 refine au [15,0,15,1,26,9,2,28,3,3,15,6] ?_
 refine qB 7 (.agg #[qFo i1,qFo i2,qFo i3]) rfl rfl rfl (qz (i:=1) rfl tf26 rfl rfl (by simp) rfl) (yZ 4 9 rfl rfl (by kernel_rfl) rfl rfl ?_ ?_)
 refine au [29,11] ?_
 intro x0 e0 a0 c0
 refine au [0,30,6] ?_
 refine qb 5 (.agg #[qFp a0 x0 c0]) rfl rfl rfl (qdR (cells:=[qFp a0 x0 c0]) st24 rfl (by kernel_rfl)) (qb 8 (.agg #[qFp a0 x0 c0,qFo i1,qFo i2,qFo i3]) rfl rfl rfl (qdR (cells:=[qFp a0 x0 c0,qFo i1,qFo i2,qFo i3]) st28 rfl (by kernel_rfl)) ?_)
 refine au [102] ?_
 intro g0
 refine au [0,26,15,106,26,15,54] ?_
 exact qa (x0,g0,a0,c0,(qCo x0.length ((none,0):qFn×Nat)))
 refine au [24,5] ?_
 intro g1
 refine au [0,26,15,12,4,29,11] ?_
 intro x2 e1 a1 c1
 refine au [0,26,15] ?_
 refine qb 5 (.agg #[qFp a1 x2 c1]) rfl rfl rfl (qdR (cells:=[qFp a1 x2 c1]) st24 rfl (by kernel_rfl)) (qb 8 (.agg #[qFp a1 x2 c1,qFo i1,qFo i2,qFo i3]) rfl rfl rfl (qdR (cells:=[qFp a1 x2 c1,qFo i1,qFo i2,qFo i3]) st28 rfl (by kernel_rfl)) ?_)
 refine au [106,26,15,54] ?_
 exact qa (x2,g1,a1,c1,(qCo x2.length ((none,0):qFn×Nat)))
 rintro ⟨x20,g17,a18,c19⟩
 try dsimp only
 refine qi [2,3] [0] [] [] (fun ((x3,g2):List (qFm)×List (qFn×Nat))=>([],[⟨g17,28,[qFp a18 x3 c19.1,qFo i1,qFo i2,qFo i3]⟩],[RoN eN56 rN56 56 1 (qFp a18 x3 c19.1) x3 g2 []],[],qix F i1 i2 i3 x3)) ?_ ?_
 refine au [45,9,98,84] ?_
 refine qq [2,3,17,18] [0] [] [0] (fun (((x7,x8),g3):(Int×List (qFm))×List (qFn×Nat))=>([(19,qFo x7)],[⟨g17,28,[qFp a18 x8 c19.1,qFo i1,qFo i2,qFo i3]⟩],[RoN eN56 rN56 56 1 (qFp a18 x8 c19.1) x8 g3 []],[])) ((0:Int),x20) c19.2 ?_
 intro k0
 rintro ⟨⟨x7,x8⟩,g3⟩
 refine aw [39,1,3,24,3,0,2,1,10] ?_ ?_
 refine au [83,48,27,2] ?_
 intro x9 e2 g4 b0 o0
 refine au [25,2,5,47,29,12] ?_
 intro x10 e3 g5 h0 g6 h1
 replace h1:a18=some ⟨g6,0,none⟩:=h1
 have h2:=zM (k:=x8.length) (c:=c19.1) h1
 refine qfs (i:=0) rfl h0 (List.not_mem_nil) ?_
 refine au [32,15,15,0,15,1,26,9,2,6,3,6,4,12,5,33,0] ?_
 rintro x11 e4 ⟨a3,c2⟩
 refine au [0] ?_
 refine zJ [0,0] [0,1,2] ?_
 refine jN 6 h1 e3 ?_
 refine au [12,7] ?_
 refine jX (j:=2) (kh:=0) (y':=x11) (q':=(a3,c2)) qp rfl rfl rfl tf56 rfl (zM h1) rfl (qu e3).2.1 rfl (.cons 0 rfl .nil) (fun x12 e5 h3 g9=>?_)
 have h4:x12.length=x8.length:=by rw[← e5,qCJ]
 refine zo 26 h3 ?_
 refine q5 (i:=1) (cs':=[qFp a18 x12 c19.1,qFo i1,qFo i2,qFo i3]) rfl (by simp only[qFp,h3] <;> rfl) ?_
 refine au [0] ?_
 refine qc (.cons 0 rfl (.cons 0 (by simp only[qFp,h4] <;> rfl) .nil)) (qg 0 rfl (qg 1 rfl (qg 2 rfl qf))) ?_
 refine au [54,95] ?_
 exact qk ((iadd .i64 x7 1,x12),g9)
 refine au [71] ?_
 exact qa (x8,g3)
 rintro ⟨x3,g2⟩
 refine au [117,25,10,21,46,8] ?_
 exact qee (a18,c19.1,g2) 0
theorem qsG {r:(Int×Int)}(hm:qjn F i1 i2=some r) :
    qFw 203 [.int .u32 i1,.int .u32 i2] [] (.tuple #[.int .u32 r.1,.int .u32 r.2]):=by
 refine pureA func203 ntmps203 hm fun _=>?_
 refine au [56,5,59,25,11,4,25,11,27,11,116] ?_
 intro x3 e3
 refine j3 6 e3 ?_
 exact az [97,27,3,25,11,4,25,11,5,69]
theorem qjl {r:(Int×Int)}(hm:qf7 F i1 i2=some r) :
    qFw 204 [.int .u64 i1,.int .u64 i2] [] (.tuple #[.int .u64 r.1,.int .u64 r.2]):=by
 refine pureA func204 ntmps204 hm fun _=>?_
 refine au [56,5,59,28,9,59,27,3,59,28,9,59,27,3,59,4,27,11,116] ?_
 intro x3 e3
 refine j3 10 e3 ?_
 refine au [97,4,27,11,4,27,3,24,0,116] ?_
 intro x4 e4
 refine j3 11 e4 ?_
 refine au [97,28,9,59,27,3,59,89,27,11,24,0,116] ?_
 intro x5 e5
 refine j3 12 e5 ?_
 refine au [97,4,27,11,4,66,27,3,24,0,116] ?_
 intro x6 e6
 refine j3 4 e6 ?_
 exact az [97,4,27,11,69]
theorem qkV {r:(Int×Int)}(hm:qcH F i1 i2=some r) :
    qFw 175 [.int .u64 i1,.int .u64 i2] [] (.tuple #[.int .u64 r.1,.int .u64 r.2]):=by
 refine pureA func175 ntmps175 hm fun _=>?_
 refine au [56,5,81] ?_
 refine yf (b:=false) rfl (fun h=>by cases h) (fun _=>?_)
 refine au [57,48,4] ?_
 refine qd qjl ?_
 intro x3 e3 _
 exact az [4,79,5,59,4,5,69]
theorem qgQ (hm:yd F m1 i1=some m2) :
    Pure qFv 131 [qFp l1 m1 t1,qFo i1] [qFr l1 m1 t1] (qFn×Nat) (fun g=>qFp g.1 m2 g.2) (fun g=>[qFs g.1 m2 g.2]) (fun _=>[]):=by
 refine pureA func131 ntmps131 hm fun _=>?_
 refine aw [24,8,1,3,5,0,2,1,1,3,4,24,3,0,2,10] ?_ ?_
 exact az [29,13]
 refine au [57,48,24,6,25,11,4,25,11] ?_
 refine qd qkV ?_
 intro x6 e6 _
 refine au [4,79,5,81,48,25,1,4] ?_
 refine zQ 3 23 26 [0,6] (decide (9223372036854775807<x6.2)) ?_ ?_ ?_
 exact az [62,61]
 exact az [4,105]
 refine aw [0,2,10] ?_ ?_
 exact az [29,13]
 refine au [57,48,25,11,26,1] ?_
 intro x10 e10 a11 c12
 refine au [59,4] ?_
 refine qu6 (j:=0) (i:=0) (qC .i64) rfl UnF.u inferInstance rfl rfl rfl rfl rfl ?_
 intro x13 e13 h14
 have h15:x13.length=x10.length:=by rw[← e13];exact qeP (Nat.zero_le _)
 refine zo 7 h14 ?_
 refine zo 30 h14 ?_
 refine zo 31 h14 ?_
 refine au [47] ?_
 refine qN (fun ((x64,_):qFm×Unit)=>([(7,qFp a11 x64 c12)],[],[qFs a11 x64 c12],[],vR F x64)) ?_ ?_
 refine au [14] ?_
 refine qu2 (fun (((x80,x81),_):(qFm×Int)×Unit)=>([(7,qFp a11 x80 c12),(8,qFo x81)],[],[qFs a11 x80 c12],[])) (fun k (s:(qFm×Int)×Unit)=>kN F k s.1) ((x13,((min m1.length x10.length:Nat):Int)),()) F ?_
 intro k97
 rintro ⟨⟨x80,x81⟩,_⟩
 try dsimp only
 refine qbR (m':=yw F (kN F k97) x80 x81) rfl ?_
 refine aw [1,1,3,4,4,24,6,24,3,0,2,10] ?_ ?_
 refine au [57,14,33,1] ?_
 intro x99 e99 a0 c0 h0 h1
 refine au [33,1] ?_
 intro x0 e0 a1 c1 h2 h3
 refine qI [] [] [] 10 ?_
 refine au [92] ?_
 refine qb 3 (qFp a0 x99 c0) rfl rfl rfl (qcY underlying56 tf3 rfl rfl rfl e99 h1 h0) ?_
 refine au [6,4,6,5] ?_
 refine qb 6 (qFp a1 x0 c1) rfl rfl rfl (qcY underlying56 tf3 rfl rfl rfl e0 h3 h2) ?_
 refine au [12,7] ?_
 refine qu7 (j:=0) (qC .i64) rfl underlying56 tf3 e99 h0 e0 h2 rfl rfl rfl rfl (fun x2 e1 h4=>?_)
 have h5:x2.length=x80.length:=by rw[← e1];exact qeP (by have:=qdO e99;omega)
 refine zo 7 h4 ?_
 refine zo 35 h4 ?_
 refine zo 39 h4 ?_
 refine zo 42 h4 ?_
 refine au [0] ?_
 refine zJ [] [] ?_
 refine au [6,8,6,9,54,24,2] ?_
 exact qk ((x2,iadd .i64 x81 ((min x0.length x99.length:Nat):Int)),())
 refine au [71] ?_
 exact qa (x80,())
 rintro ⟨x64,_⟩
 refine au [91,49] ?_
 exact qx (a11,c12)
theorem qg5 (hm:zB F m1 i1=some i2) :
    qFw 85 [qFp l1 m1 t1,qFo i1] [qFr l1 m1 t1] (qFo i2):=by
 refine pureA func85 ntmps85 hm fun _=>?_
 refine au [56,47] ?_
 refine qN (fun ((_,_):Unit×Unit)=>([],[],[],[],qcs F)) ?_ ?_
 refine au [48,84] ?_
 refine qq [0,1,7] [] [] [0] (fun ((x47,_):Int×Unit)=>([(8,qFo x47)],[],[],[])) (0:Int) () ?_
 intro k58
 rintro ⟨x47,_⟩
 refine aw [39,1,3,24,3,0,2,1,10] ?_ ?_
 refine au [83,48,59,89,26,3] ?_
 intro x64 e64 b65 o66
 refine aw [25,2,25,6,0,2,10] ?_ ?_
 exact az [48,49,90,103]
 refine au [11,95] ?_
 exact qk (iadd .i64 x47 1,())
 exact az [71,26,8]
 rintro ⟨_,_⟩
 exact az [117,69]
theorem qhH (F:Nat)(x1:qFm)(a2:qFn)(c3:Nat)(r:Int)(hm:jI F x1=some r) :
    qFw 205 [qFp a2 x1 c3] [qFr a2 x1 c3] (qFo r):=by
 refine pureA func205 ntmps205 hm fun _=>?_
 refine aw [25,0,1,3,5,0,2,1,1,3,4,24,6,24,3,0,2,10] ?_ ?_
 exact az [29,13]
 refine au [57,48,26,3] ?_
 intro x5 e5 b6 o7
 refine au [25,2,47] ?_
 refine qN (fun ((x35,_):Int×Unit)=>([(3,qFo x35)],[],[],[],qc1 F x35)) ?_ ?_
 refine au [45,47,14] ?_
 refine qq [0] [] [] [1] (fun (((x44,x45),_):(Int×Int)×Unit)=>([(3,qFo x44),(4,qFo x45)],[],[],[])) (x5,(1:Int)) () ?_
 intro k54
 rintro ⟨⟨x44,x45⟩,_⟩
 refine aw [39,1,1,3,4,4,24,6,24,3,0,2,10] ?_ ?_
 refine au [83,3,89,4,26,3] ?_
 intro x59 e59 b60 o61
 refine au [25,2,28,10,5,0,63,3,113,5,0] ?_
 exact qk ((imin x44 x59,iadd .i64 x45 1),())
 refine au [71] ?_
 exact qa (x44,())
 rintro ⟨x35,_⟩
 exact az [91,69]
theorem qhD (F g1:Nat)(x2:List (qFm))(a3:qFn)(c4:(Nat×List (qFn×Nat)))(x5:qFm)(a6:qFn)(c7:Nat)(x8:qFm)(a9:qFn)(c10:Nat)(x11:qFm)(a12:qFn)(c13:Nat)(x14:qFm)(a15:qFn)(c16:Nat)(x17 x18:Int)(r:(qFm×qFm×qFm×qFm×Int))(hm:je F x2 x5 x8 x11 x14 x17 x18=some r) :
    PureM qFv 176 [qFq g1,qFo x18] [⟨g1,183,[qFp a3 x2 c4.1,qFp a6 x5 c7,qFp a9 x8 c10,qFp a12 x11 c13,qFp a15 x14 c16,qFo x17]⟩] [qFs a6 x5 c7,qFs a9 x8 c10,qFs a12 x11 c13,qFs a15 x14 c16] [SlN eN56 iN56 1 (qFp a3 x2 c4.1) x2 c4.2] ((qFn×Nat)×(qFn×Nat)×(qFn×Nat)×qFn×Nat) (fun _=>.tuple #[]) (fun g=>[⟨g1,183,[qFp a3 x2 c4.1,qFp g.1.1 r.1 g.1.2,qFp g.2.1.1 r.2.1 g.2.1.2,qFp g.2.2.1.1 r.2.2.1 g.2.2.1.2,qFp g.2.2.2.1 r.2.2.2.1 g.2.2.2.2,qFo r.2.2.2.2]⟩]) (fun g=>[qFs g.1.1 r.1 g.1.2,qFs g.2.1.1 r.2.1 g.2.1.2,qFs g.2.2.1.1 r.2.2.1 g.2.2.1.2,qFs g.2.2.2.1 r.2.2.2.1 g.2.2.2.2]):=by
 refine pureMA func176 ntmps176 hm fun _=>?_
 refine au [24,8,48,112,4,31,6] ?_
 intro x19 e19 _
 refine au [59,112,4] ?_
 refine qxO (j:=2) rfl UnF.u inferInstance rfl rfl rfl rfl ?_
 intro h20 g21 h22
 refine au [59] ?_
 refine qs (d:=21) (v:=.slice (some ⟨g21,x19.toNat*1,none⟩) (x11.drop x19.toNat).length (c13-x19.toNat)) rfl (by rw[List.length_drop]) (vh EnC.e rfl rfl rfl (fun x23 e23=>qhH F (x11.drop x19.toNat) (some ⟨g21,x19.toNat*1,none⟩) (c13-x19.toNat) x23 e23) (.consG 2 rfl (qBG (qC .i64) h22 (by have:=h20;omega)) .nil) (fun x23 e23=>?_))
 intro _
 refine au [47] ?_
 refine qi [0,4] [] [0,1,2] [0] (fun ((x75,_):qFm×Unit)=>([],[⟨g1,183,[qFp a3 x2 c4.1,qFp a6 x5 c7,qFp a9 x8 c10,qFp a12 x11 c13,qFp a15 x75 c16,qFo x17]⟩],[qFs a15 x75 c16],[],jT F x5 x8 x11 x17 x19 x75)) ?_ ?_
 refine au [48,84] ?_
 refine qq [0,4,6,23,24] [] [0,0,0] [0] (fun (((x93,x94),_):(Int×qFm)×Unit)=>([(25,qFo x93)],[⟨g1,183,[qFp a3 x2 c4.1,qFp a6 x5 c7,qFp a9 x8 c10,qFp a12 x11 c13,qFp a15 x94 c16,qFo x17]⟩],[qFs a15 x94 c16],[])) ((0:Int),x14) () ?_
 intro k0
 rintro ⟨⟨x93,x94⟩,_⟩
 refine aw [39,1,3,24,3,0,2,1,10] ?_ ?_
 refine au [83,45] ?_
 refine qsl (xs:=x11) rfl rfl underlying56 tf3 rfl rfl rfl (fun x0 e0=>qvd (j:=2) (qC .i64) rfl rfl tf3 rfl h22 e0 (fun _=>rfl) rfl rfl ?_)
 refine au [47,3,4,112,89] ?_
 refine qcX (j:=3) rfl UnF.u inferInstance rfl rfl rfl rfl ?_
 intro x1 e1 g0 h0
 refine kz (j:=3) (y':=x23) (qC .i64) rfl rfl rfl tf3 rfl h0 (qu e1).2.1 rfl (fun x3 e2 h1=>?_)
 have h2:x3.length=x94.length:=by rw[← e2,qCJ]
 refine qs (d:=32) (v:=qFp a15 x3 c16) rfl h1 (q5 (i:=0) (cs':=[qFp a3 x2 c4.1,qFp a6 x5 c7,qFp a9 x8 c10,qFp a12 x11 c13,qFp a15 x3 c16,qFo x17]) rfl (by simp only[qFp,h1] <;> rfl) ?_)
 refine au [0,95] ?_
 exact qk ((iadd .i64 x93 1,x3),())
 refine au [71] ?_
 exact qa (x94,())
 rintro ⟨x75,_⟩
 refine au [39,3,89,112,4] ?_
 refine qqU (i:=2) (qC .i64) rfl UnF.u inferInstance rfl rfl rfl rfl ?_
 intro x76 e76
 refine au [55,87] ?_
 exact qK ((a6,c7),(a9,c10),(a12,c13),a15,c16)
theorem qhE:∀ (F g1:Nat)(x2:List (qFm))(a3:qFn)(c4:(Nat×List (qFn×Nat)))(x5:qFm)(a6:qFn)(c7:Nat)(x8:qFm)(a9:qFn)(c10:Nat)(x11:qFm)(a12:qFn)(c13:Nat)(x14:qFm)(a15:qFn)(c16:Nat)(x17 x18:Int)(r:(qFm×qFm×qFm×qFm×Int)),q6 F x2 x5 x8 x11 x14 x17 x18=some r→PureM qFv 132 [qFq g1,qFo x18] [⟨g1,183,[qFp a3 x2 c4.1,qFp a6 x5 c7,qFp a9 x8 c10,qFp a12 x11 c13,qFp a15 x14 c16,qFo x17]⟩] [qFs a6 x5 c7,qFs a9 x8 c10,qFs a12 x11 c13,qFs a15 x14 c16] [SlN eN56 iN56 1 (qFp a3 x2 c4.1) x2 c4.2] ((qFn×Nat)×(qFn×Nat)×(qFn×Nat)×qFn×Nat) (fun _=>.tuple #[]) (fun g=>[⟨g1,183,[qFp a3 x2 c4.1,qFp g.1.1 r.1 g.1.2,qFp g.2.1.1 r.2.1 g.2.1.2,qFp g.2.2.1.1 r.2.2.1 g.2.2.1.2,qFp g.2.2.2.1 r.2.2.2.1 g.2.2.2.2,qFo r.2.2.2.2]⟩]) (fun g=>[qFs g.1.1 r.1 g.1.2,qFs g.2.1.1 r.2.1 g.2.1.2,qFs g.2.2.1.1 r.2.2.1 g.2.2.1.2,qFs g.2.2.2.1 r.2.2.2.1 g.2.2.2.2]):=by
  intro F
  induction F with
  | zero=>intro g1 x2 a3 c4 x5 a6 c7 x8 a9 c10 x11 a12 c13 x14 a15 c16 x17 x18 r hm;exact absurd hm (by simp[q6])
  | succ F ih =>
    intro g1 x2 a3 c4 x5 a6 c7 x8 a9 c10 x11 a12 c13 x14 a15 c16 x17 x18 r hm
    refine qjH func132 rfl ntmps132 rfl hm (fun w=>?_)
    refine qo0 (l':=[(0,qFq g1),(1,qFo x18)]) rfl ?_
    refine kE ?_
    refine qU ?_
    refine q7 rfl rfl rfl ?_
    refine km rfl rfl rfl ?_
    refine qW rfl rfl ff183_5 rfl ?_
    refine zU (i:=0) rfl rfl tf3 rfl rfl (fun _=>rfl) rfl rfl ?_
    refine qk7 rfl rfl rfl rfl ?_
    refine km rfl rfl rfl ?_
    refine qW rfl rfl ff183_5 rfl ?_
    refine kP (i:=0) rfl rfl rfl tf3 rfl rfl rfl rfl rfl ?_
    refine zH ?_
    refine zC ?_
    refine kE ?_
    refine qcb (j:=0) rfl (fun x33 e33 g34 h35=>?_)
    replace h35:a6=some ⟨g34,0,none⟩:=h35
    have h36:=zM (k:=x5.length) (c:=c7) h35
    refine qcb (j:=1) rfl (fun x37 e37 g38 h39=>?_)
    replace h39:a9=some ⟨g38,0,none⟩:=h39
    have h40:=zM (k:=x8.length) (c:=c10) h39
    refine kD mixed [] _ _ (.cons 0 rfl .nil) (qg 0 rfl qf) 22 rfl ?_
    refine qb 0 (qFq g1) rfl rfl rfl (zy rfl) ?_
    refine qb 1 (qFq g1) rfl rfl rfl (zy rfl) ?_
    refine qb 2 (.pointer (some ⟨g1,1,none⟩)) rfl rfl rfl (zd rfl ff183_1) ?_
    refine qB 3 (qFp a6 x5 c7) rfl rfl rfl (qz (i:=0) rfl tf56 rfl rfl (fun _=>rfl) rfl) ?_
    refine qb 4 (qFo x18) rfl rfl rfl (zy rfl) ?_
    refine qb 5 (qFq g1) rfl rfl rfl (zy rfl) ?_
    refine qb 6 (qFq g1) rfl rfl rfl (zy rfl) ?_
    refine qb 7 (.pointer (some ⟨g1,2,none⟩)) rfl rfl rfl (zd rfl ff183_2) ?_
    refine qB 8 (qFp a9 x8 c10) rfl rfl rfl (qz (i:=0) rfl tf56 rfl rfl (fun _=>rfl) rfl) ?_
    refine qb 9 (qFo x18) rfl rfl rfl (zy rfl) ?_
    refine qb 10 (qFq g1) rfl rfl rfl (zy rfl) ?_
    refine qb 11 (qFq g1) rfl rfl rfl (zy rfl) ?_
    refine qb 12 (.pointer (some ⟨g1,5,none⟩)) rfl rfl rfl (zd rfl ff183_5) ?_
    refine qB 13 (qFo (iadd .i64 x17 1)) rfl rfl rfl (qz (i:=0) rfl tf3 rfl rfl (fun _=>rfl) rfl) ?_
    refine qb 14 (qFq g1) rfl rfl rfl (zy rfl) ?_
    refine qb 15 (qFq g1) rfl rfl rfl (zy rfl) ?_
    refine qb 16 (.pointer (some ⟨g1,5,none⟩)) rfl rfl rfl (zd rfl ff183_5) ?_
    refine qB 17 (qFo (iadd .i64 x17 1)) rfl rfl rfl (qz (i:=0) rfl tf3 rfl rfl (fun _=>rfl) rfl) ?_
    refine zW (d:=16) (v:=qFp (some ⟨g34,0,none⟩) x5 c7) rfl (by simp only[qFp,h35] <;> rfl) ?_
    refine qb 18 (.pointer (some ⟨g34,x18.toNat*1,none⟩)) rfl rfl rfl (qbS underlying56 tf3 rfl rfl (qu e33).1 (qcW e33)) ?_
    refine zW (d:=16) (v:=qFp a6 x5 c7) rfl (by simp only[qFp,h35] <;> rfl) ?_
    refine qg2 19 rfl (by kernel_rfl) rfl ?_
    refine kz (j:=0) (y':=iadd .i64 x17 1) (qC .i64) rfl rfl rfl tf3 rfl (zM h35) (qu e33).2.1 rfl (fun x41 e41 h42=>?_)
    have h43:x41.length=x5.length:=by rw[← e41,qCJ]
    refine qs (d:=16) (v:=qFp a6 x41 c7) rfl h42 ?_
    refine q5 (i:=0) (cs':=[qFp a3 x2 c4.1,qFp a6 x41 c7,qFp a9 x8 c10,qFp a12 x11 c13,qFp a15 x14 c16,qFo (iadd .i64 x17 1)]) rfl (by simp only[qFp,h42] <;> rfl) ?_
    refine zH ?_
    refine qc (.cons 0 (by simp only[qFp,h43] <;> rfl) .nil) (qg 0 rfl qf) ?_
    refine zW (d:=21) (v:=qFp (some ⟨g38,0,none⟩) x8 c10) rfl (by simp only[qFp,h39] <;> rfl) ?_
    refine qb 20 (.pointer (some ⟨g38,x18.toNat*1,none⟩)) rfl rfl rfl (qbS underlying56 tf3 rfl rfl (qu e37).1 (qcW e37)) ?_
    refine zW (d:=21) (v:=qFp a9 x8 c10) rfl (by simp only[qFp,h39] <;> rfl) ?_
    refine qg2 21 rfl (by kernel_rfl) rfl ?_
    refine kz (j:=1) (y':=iadd .i64 x17 1) (qC .i64) rfl rfl rfl tf3 rfl (zM h39) (qu e37).2.1 rfl (fun x44 e44 h45=>?_)
    have h46:x44.length=x8.length:=by rw[← e44,qCJ]
    refine qs (d:=21) (v:=qFp a9 x44 c10) rfl h45 ?_
    refine q5 (i:=0) (cs':=[qFp a3 x2 c4.1,qFp a6 x41 c7,qFp a9 x44 c10,qFp a12 x11 c13,qFp a15 x14 c16,qFo (iadd .i64 x17 1)]) rfl (by simp only[qFp,h45] <;> rfl) ?_
    refine zH ?_
    refine qc (.cons 0 (by simp only[qFp,h43,h46] <;> rfl) .nil) (qg 0 rfl qf) ?_
    refine qg1 (by kernel_rfl) ?_
    refine qkD ?_ (by intro c h;cases h)
    refine zC ?_
    refine kE ?_
    refine qU ?_
    refine q7 rfl rfl rfl ?_
    refine q7 rfl rfl rfl ?_
    refine km rfl rfl rfl ?_
    refine qW rfl rfl ff183_3 rfl ?_
    refine zU (i:=0) rfl rfl tf56 rfl rfl (fun _=>rfl) rfl rfl ?_
    refine q7 rfl rfl rfl ?_
    refine qbl (vs:=[qFo x18]) (ys:=([x18]:qFm)) (qC .i64) (by decide) rfl underlying56 tf3 rfl rfl rfl rfl rfl (by decide) (fun a47 c48=>?_)
    refine zA 3 (qC .i64) rfl underlying56 tf3 rfl rfl rfl rfl rfl (.inl ⟨0,_,rfl⟩) rfl rfl (fun x49 e49 a50 c51=>?_)
    refine km rfl rfl rfl ?_
    refine qW rfl rfl ff183_3 rfl ?_
    refine kP (i:=0) rfl rfl rfl tf56 rfl rfl rfl rfl rfl ?_
    refine zH ?_
    refine zC ?_
    refine qi [0,1] [] [] [0] (fun (((x0,x1,x3,x4,x6),a0,c0,a1,c1,a2,c2,a4,c3):(qFm×qFm×qFm×qFm×Int)×qFn×Nat×qFn×Nat×qFn×Nat×qFn×Nat)=>([],[⟨g1,183,[qFp a3 x2 c4.1,qFp a0 x0 c0,qFp a1 x1 c1,qFp a2 x3 c2,qFp a4 x4 c3,qFo x6]⟩],[qFs a0 x0 c0,qFs a1 x1 c1,qFs a2 x3 c2,qFs a4 x4 c3],[],jV F x2 x18 x0 x1 x3 x4 x6)) ?_ ?_
    · refine kE ?_
      refine qU ?_
      refine q7 rfl rfl rfl ?_
      refine km rfl rfl rfl ?_
      refine qW rfl rfl ff183_0 rfl ?_
      refine zU (i:=0) rfl rfl tf22 rfl rfl (fun _=>rfl) rfl rfl ?_
      refine q7 rfl rfl rfl ?_
      refine qi5 (j:=0) qp (by decide) rfl underlying22 tf56 rfl rfl rfl rfl (fun x7 e0 g0 b0 o0=>?_)
      refine qik (j:=0) rfl rfl tf56 rfl rfl (fun _=>rfl) rfl rfl ?_
      refine qo5 rfl underlying56 rfl rfl ?_
      refine q7 rfl rfl rfl ?_
      refine zH ?_
      refine zC ?_
      refine qg3 ?_
      refine qnA [0,1,49,50] [] [] [1,2] (fun (((x9,x10,x12,x13,x15,x16),a5,c5,a7,c6,a8,c8,a10,c9):(Int×qFm×qFm×qFm×qFm×Int)×qFn×Nat×qFn×Nat×qFn×Nat×qFn×Nat)=>([(51,qFo x9)],[⟨g1,183,[qFp a3 x2 c4.1,qFp a5 x10 c5,qFp a7 x12 c6,qFp a8 x13 c8,qFp a10 x15 c9,qFo x16]⟩],[qFs a5 x10 c5,qFs a7 x12 c6,qFs a8 x13 c8,qFs a10 x15 c9],[])) (fun k (s:(Int×qFm×qFm×qFm×qFm×Int)×qFn×Nat×qFn×Nat×qFn×Nat×qFn×Nat)=>zp F (q6 F) x2 x18 x7 k s.1) ((0,x41,x44,x49,x14,iadd .i64 x17 1),a6,c7,a9,c10,a50,c51,a15,c16) F ?_
      intro k0
      rintro ⟨⟨x9,x10,x12,x13,x15,x16⟩,a5,c5,a7,c6,a8,c8,a10,c9⟩
      try dsimp only
      refine qbR (m':=yX F (q6 F) x2 x18 x7 (zp F (q6 F) x2 x18 x7 k0) x9 x10 x12 x13 x15 x16) rfl ?_
      refine kE ?_
      refine qU ?_
      refine qo6 rfl rfl rfl rfl ?_
      refine zH ?_
      refine zC ?_
      refine kE ?_
      refine qky rfl (fun h0=>?_) (fun h0=>?_)
      · refine qh5 ?_
        refine zC ?_
        refine qi [0,1,49,50,51] [] [] [0,1] (fun (((x19,x20,x21,x22,x23),a11,c11,a13,c12,a14,c14,a16,c15):(qFm×qFm×qFm×qFm×Int)×qFn×Nat×qFn×Nat×qFn×Nat×qFn×Nat)=>([],[⟨g1,183,[qFp a3 x2 c4.1,qFp a11 x19 c11,qFp a13 x20 c12,qFp a14 x21 c14,qFp a16 x22 c15,qFo x23]⟩],[qFs a11 x19 c11,qFs a13 x20 c12,qFs a14 x21 c14,qFs a16 x22 c15],[],zF F (zp F (q6 F) x2 x18 x7 k0) x9 x19 x20 x21 x22 x23)) ?_ ?_
        · refine qg3 ?_
          refine kE ?_
          refine qU ?_
          refine vZ (j:=0) (qC .i64) (by decide) rfl underlying56 tf3 rfl rfl rfl rfl (fun x24 e1 b1 o1=>?_)
          refine qik (j:=0) rfl rfl tf3 rfl rfl (fun _=>rfl) rfl rfl ?_
          refine kO rfl rfl rfl ?_
          refine zH ?_
          refine zC ?_
          refine qg3 ?_
          refine kE ?_
          refine qU ?_
          refine q7 rfl rfl rfl ?_
          refine km rfl rfl rfl ?_
          refine qW rfl rfl ff183_1 rfl ?_
          refine zU (i:=0) rfl rfl tf56 rfl rfl (fun _=>rfl) rfl rfl ?_
          refine q7 rfl rfl rfl ?_
          refine qcX (j:=0) rfl underlying56 tf3 rfl rfl rfl rfl (fun x25 e2 g2 h1=>?_)
          refine kJ (j:=0) (y:=x25) (qC .i64) rfl rfl tf3 rfl h1 (qu e2).2.2 (fun _=>rfl) rfl rfl ?_
          refine qtY rfl rfl rfl rfl ?_
          refine kO rfl rfl rfl ?_
          refine zH ?_
          refine zC ?_
          refine qky rfl (fun h2=>?_) (fun h2=>?_)
          · refine kE ?_
            refine qU ?_
            refine q7 rfl rfl rfl ?_
            refine q7 rfl rfl rfl ?_
            refine qc6 EnC.e rfl rfl rfl (fun x26 e3=>ih g1 x2 a3 c4 x10 a5 c5 x12 a7 c6 x13 a8 c8 x15 a10 c9 x16 x24 x26 e3) (.cons 0 rfl .nil) (.cons 0 rfl (.cons 0 rfl (.cons 0 rfl (.cons 0 rfl .nil)))) (.consF 2 rfl .nil) (fun x26 e3=>?_)
            rintro ⟨⟨a17,c17⟩,⟨a18,c18⟩,⟨a19,c19⟩,a20,c20⟩
            refine zH ?_
            refine zC ?_
            refine qcb (j:=1) rfl (fun x27 e4 g3 h3=>?_)
            replace h3:a18=some ⟨g3,0,none⟩:=h3
            have h4:=zM (k:=x26.2.1.length) (c:=c18) h3
            refine qcb (j:=1) rfl (fun x28 e5 g4 h5=>?_)
            replace h5:a18=some ⟨g4,0,none⟩:=h5
            have h6:=zM (k:=x26.2.1.length) (c:=c18) h5
            refine qcb (j:=1) rfl (fun x29 e6 g5 h7=>?_)
            replace h7:a18=some ⟨g5,0,none⟩:=h7
            have h8:=zM (k:=x26.2.1.length) (c:=c18) h7
            refine kD mixed [21] _ _ (.cons 0 rfl .nil) (qg 0 rfl (qg 1 rfl (qg 2 rfl (qE 1 rfl (qo (qC .i64) e4 h3) (qE 1 rfl (qo (qC .i64) e5 h5) (qE 1 rfl (qo (qC .i64) e6 h7) qf)))))) 22 rfl ?_
            refine qb 0 (qFq g1) rfl rfl rfl (zy rfl) ?_
            refine qb 1 (qFq g1) rfl rfl rfl (zy rfl) ?_
            refine qb 2 (.pointer (some ⟨g1,2,none⟩)) rfl rfl rfl (zd rfl ff183_2) ?_
            refine qB 3 (qFp a18 x26.2.1 c18) rfl rfl rfl (qz (i:=0) rfl tf56 rfl rfl (fun _=>rfl) rfl) ?_
            refine qb 4 (qFo x18) rfl rfl rfl (zy rfl) ?_
            refine qb 5 (qFq g1) rfl rfl rfl (zy rfl) ?_
            refine qb 6 (qFq g1) rfl rfl rfl (zy rfl) ?_
            refine qb 7 (.pointer (some ⟨g1,2,none⟩)) rfl rfl rfl (zd rfl ff183_2) ?_
            refine qB 8 (qFp a18 x26.2.1 c18) rfl rfl rfl (qz (i:=0) rfl tf56 rfl rfl (fun _=>rfl) rfl) ?_
            refine qb 9 (qFo x18) rfl rfl rfl (zy rfl) ?_
            refine zW (d:=75) (v:=qFp (some ⟨g3,0,none⟩) x26.2.1 c18) rfl (by simp only[qFp,h3] <;> rfl) ?_
            refine qb 10 (.pointer (some ⟨g3,x18.toNat*1,none⟩)) rfl rfl rfl (qbS underlying56 tf3 rfl rfl (qu e4).1 (qcW e4)) ?_
            refine zW (d:=75) (v:=qFp a18 x26.2.1 c18) rfl (by simp only[qFp,h3] <;> rfl) ?_
            refine qy 11 (qFo x27) [[21]] rfl rfl rfl (qQ (j:=3) rfl tf3 rfl rfl (fun _=>rfl) rfl) ?_
            refine qb 12 (qFq g1) rfl rfl rfl (zy rfl) ?_
            refine qb 13 (qFq g1) rfl rfl rfl (zy rfl) ?_
            refine qb 14 (.pointer (some ⟨g1,2,none⟩)) rfl rfl rfl (zd rfl ff183_2) ?_
            refine qB 15 (qFp a18 x26.2.1 c18) rfl rfl rfl (qz (i:=0) rfl tf56 rfl rfl (fun _=>rfl) rfl) ?_
            refine qb 16 (qFo x24) rfl rfl rfl (zy rfl) ?_
            refine zW (d:=82) (v:=qFp (some ⟨g4,0,none⟩) x26.2.1 c18) rfl (by simp only[qFp,h5] <;> rfl) ?_
            refine qb 17 (.pointer (some ⟨g4,x24.toNat*1,none⟩)) rfl rfl rfl (qbS underlying56 tf3 rfl rfl (qu e5).1 (qcW e5)) ?_
            refine zW (d:=82) (v:=qFp a18 x26.2.1 c18) rfl (by simp only[qFp,h5] <;> rfl) ?_
            refine qy 18 (qFo x28) [[21]] rfl rfl rfl (qQ (j:=4) rfl tf3 rfl rfl (fun _=>rfl) rfl) ?_
            refine qb 19 (qFo (imin x27 x28)) rfl rfl rfl (qsE rfl rfl) ?_
            refine zW (d:=70) (v:=qFp (some ⟨g5,0,none⟩) x26.2.1 c18) rfl (by simp only[qFp,h7] <;> rfl) ?_
            refine qb 20 (.pointer (some ⟨g5,x18.toNat*1,none⟩)) rfl rfl rfl (qbS underlying56 tf3 rfl rfl (qu e6).1 (qcW e6)) ?_
            refine zW (d:=70) (v:=qFp a18 x26.2.1 c18) rfl (by simp only[qFp,h7] <;> rfl) ?_
            refine qg2 21 rfl (by kernel_rfl) rfl ?_
            refine kz (j:=1) (y':=imin x27 x28) (qC .i64) rfl rfl rfl tf3 rfl (zM h7) (qu e6).2.1 rfl (fun x30 e7 h9=>?_)
            have h10:x30.length=x26.2.1.length:=by rw[← e7,qCJ]
            refine qs (d:=70) (v:=qFp a18 x30 c18) rfl h9 ?_
            refine qs (d:=75) (v:=qFp a18 x30 c18) rfl h9 ?_
            refine qs (d:=82) (v:=qFp a18 x30 c18) rfl h9 ?_
            refine q5 (i:=0) (cs':=[qFp a3 x2 c4.1,qFp a17 x26.1 c17,qFp a18 x30 c18,qFp a19 x26.2.2.1 c19,qFp a20 x26.2.2.2.1 c20,qFo x26.2.2.2.2]) rfl (by simp only[qFp,h9] <;> rfl) ?_
            refine zH ?_
            refine kY 21 rfl (by kernel_rfl) (.cons 0 (by simp only[qFp,h10] <;> rfl) .nil) ?_
            refine qg1 (by kernel_rfl) ?_
            refine qkD ?_ (by intro c h;cases h)
            refine qeR ?_
            refine qeR ?_
            exact yh ((x26.1,x30,x26.2.2.1,x26.2.2.2.1,x26.2.2.2.2),a17,c17,a18,c18,a19,c19,a20,c20) (hB:=(.cons 0 rfl .nil)) (hR:=(.cons 1 rfl (.cons 0 rfl (.cons 0 rfl (.cons 0 rfl .nil))))) (hF:=(qh 1 rfl (qh 2 rfl zG)))
          · refine kE ?_
            refine qU ?_
            refine q7 rfl rfl rfl ?_
            refine km rfl rfl rfl ?_
            refine qW rfl rfl ff183_4 rfl ?_
            refine zU (i:=0) rfl rfl tf56 rfl rfl (fun _=>rfl) rfl rfl ?_
            refine q7 rfl rfl rfl ?_
            refine qcX (j:=3) rfl underlying56 tf3 rfl rfl rfl rfl (fun x31 e8 g6 h11=>?_)
            refine kJ (j:=3) (y:=x31) (qC .i64) rfl rfl tf3 rfl h11 (qu e8).2.2 (fun _=>rfl) rfl rfl ?_
            refine qo6 rfl rfl rfl rfl ?_
            refine kO rfl rfl rfl ?_
            refine zH ?_
            refine zC ?_
            refine qky rfl (fun h12=>?_) (fun h12=>?_)
            · refine qcb (j:=1) rfl (fun x32 e9 g7 h13=>?_)
              replace h13:a7=some ⟨g7,0,none⟩:=h13
              have h14:=zM (k:=x12.length) (c:=c6) h13
              refine qcb (j:=0) rfl (fun x34 e10 g8 h15=>?_)
              replace h15:a5=some ⟨g8,0,none⟩:=h15
              have h16:=zM (k:=x10.length) (c:=c5) h15
              refine qcb (j:=1) rfl (fun x35 e11 g9 h17=>?_)
              replace h17:a7=some ⟨g9,0,none⟩:=h17
              have h18:=zM (k:=x12.length) (c:=c6) h17
              refine kD mixed [21] _ _ (.cons 0 rfl .nil) (qg 0 rfl (qg 1 rfl (qg 2 rfl (qE 1 rfl (qo (qC .i64) e9 h13) (qE 0 rfl (qo (qC .i64) e10 h15) (qE 1 rfl (qo (qC .i64) e11 h17) qf)))))) 22 rfl ?_
              refine qb 0 (qFq g1) rfl rfl rfl (zy rfl) ?_
              refine qb 1 (qFq g1) rfl rfl rfl (zy rfl) ?_
              refine qb 2 (.pointer (some ⟨g1,2,none⟩)) rfl rfl rfl (zd rfl ff183_2) ?_
              refine qB 3 (qFp a7 x12 c6) rfl rfl rfl (qz (i:=0) rfl tf56 rfl rfl (fun _=>rfl) rfl) ?_
              refine qb 4 (qFo x18) rfl rfl rfl (zy rfl) ?_
              refine qb 5 (qFq g1) rfl rfl rfl (zy rfl) ?_
              refine qb 6 (qFq g1) rfl rfl rfl (zy rfl) ?_
              refine qb 7 (.pointer (some ⟨g1,2,none⟩)) rfl rfl rfl (zd rfl ff183_2) ?_
              refine qB 8 (qFp a7 x12 c6) rfl rfl rfl (qz (i:=0) rfl tf56 rfl rfl (fun _=>rfl) rfl) ?_
              refine qb 9 (qFo x18) rfl rfl rfl (zy rfl) ?_
              refine zW (d:=105) (v:=qFp (some ⟨g7,0,none⟩) x12 c6) rfl (by simp only[qFp,h13] <;> rfl) ?_
              refine qb 10 (.pointer (some ⟨g7,x18.toNat*1,none⟩)) rfl rfl rfl (qbS underlying56 tf3 rfl rfl (qu e9).1 (qcW e9)) ?_
              refine zW (d:=105) (v:=qFp a7 x12 c6) rfl (by simp only[qFp,h13] <;> rfl) ?_
              refine qy 11 (qFo x32) [[21]] rfl rfl rfl (qQ (j:=3) rfl tf3 rfl rfl (fun _=>rfl) rfl) ?_
              refine qb 12 (qFq g1) rfl rfl rfl (zy rfl) ?_
              refine qb 13 (qFq g1) rfl rfl rfl (zy rfl) ?_
              refine qb 14 (.pointer (some ⟨g1,1,none⟩)) rfl rfl rfl (zd rfl ff183_1) ?_
              refine qB 15 (qFp a5 x10 c5) rfl rfl rfl (qz (i:=0) rfl tf56 rfl rfl (fun _=>rfl) rfl) ?_
              refine qb 16 (qFo x24) rfl rfl rfl (zy rfl) ?_
              refine zW (d:=112) (v:=qFp (some ⟨g8,0,none⟩) x10 c5) rfl (by simp only[qFp,h15] <;> rfl) ?_
              refine qb 17 (.pointer (some ⟨g8,x24.toNat*1,none⟩)) rfl rfl rfl (qbS underlying56 tf3 rfl rfl (qu e10).1 (qcW e10)) ?_
              refine zW (d:=112) (v:=qFp a5 x10 c5) rfl (by simp only[qFp,h15] <;> rfl) ?_
              refine qy 18 (qFo x34) [[21]] rfl rfl rfl (qQ (j:=4) rfl tf3 rfl rfl (fun _=>rfl) rfl) ?_
              refine qb 19 (qFo (imin x32 x34)) rfl rfl rfl (qsE rfl rfl) ?_
              refine zW (d:=100) (v:=qFp (some ⟨g9,0,none⟩) x12 c6) rfl (by simp only[qFp,h17] <;> rfl) ?_
              refine qb 20 (.pointer (some ⟨g9,x18.toNat*1,none⟩)) rfl rfl rfl (qbS underlying56 tf3 rfl rfl (qu e11).1 (qcW e11)) ?_
              refine zW (d:=100) (v:=qFp a7 x12 c6) rfl (by simp only[qFp,h17] <;> rfl) ?_
              refine qg2 21 rfl (by kernel_rfl) rfl ?_
              refine kz (j:=1) (y':=imin x32 x34) (qC .i64) rfl rfl rfl tf3 rfl (zM h17) (qu e11).2.1 rfl (fun x36 e12 h19=>?_)
              have h20:x36.length=x12.length:=by rw[← e12,qCJ]
              refine qs (d:=100) (v:=qFp a7 x36 c6) rfl h19 ?_
              refine qs (d:=105) (v:=qFp a7 x36 c6) rfl h19 ?_
              refine q5 (i:=0) (cs':=[qFp a3 x2 c4.1,qFp a5 x10 c5,qFp a7 x36 c6,qFp a8 x13 c8,qFp a10 x15 c9,qFo x16]) rfl (by simp only[qFp,h19] <;> rfl) ?_
              refine zH ?_
              refine kY 21 rfl (by kernel_rfl) (.cons 0 (by simp only[qFp,h20] <;> rfl) .nil) ?_
              refine qg1 (by kernel_rfl) ?_
              refine qkD ?_ (by intro c h;cases h)
              refine qeR ?_
              refine qeR ?_
              exact yh ((x10,x36,x13,x15,x16),a5,c5,a7,c6,a8,c8,a10,c9) (hB:=(.cons 0 rfl .nil)) (hR:=(.cons 1 rfl (.cons 0 rfl (.cons 0 rfl (.cons 0 rfl .nil))))) (hF:=(qh 1 rfl (qh 2 rfl zG)))
            · refine qh5 ?_
              refine qeR ?_
              refine qeR ?_
              exact yh ((x10,x12,x13,x15,x16),a5,c5,a7,c6,a8,c8,a10,c9) (hB:=(.cons 0 rfl .nil)) (hR:=(.cons 0 rfl (.cons 0 rfl (.cons 0 rfl (.cons 0 rfl .nil))))) (hF:=(qh 1 rfl (qh 2 rfl zG)))
        · rintro ⟨⟨x19,x20,x21,x22,x23⟩,a11,c11,a13,c12,a14,c14,a16,c15⟩
          try dsimp only
          refine qU ?_
          refine qk7 rfl rfl rfl rfl ?_
          refine q7 rfl rfl rfl ?_
          refine zH ?_
          exact vz ((iadd .i64 x9 1,x19,x20,x21,x22,x23),a11,c11,a13,c12,a14,c14,a16,c15) (hB:=(.cons 0 rfl .nil)) (hR:=(.cons 0 rfl (.cons 0 rfl (.cons 0 rfl (.cons 0 rfl .nil))))) (hF:=(qh 0 rfl (qh 1 rfl zG)))
      · refine qqP ?_
        refine qkE ?_
        refine qkE ?_
        refine qq0 ?_
        exact yh ((x10,x12,x13,x15,x16),a5,c5,a7,c6,a8,c8,a10,c9) (hB:=(.cons 0 rfl .nil)) (hR:=(.cons 0 rfl (.cons 0 rfl (.cons 0 rfl (.cons 0 rfl .nil))))) (hF:=(qh 1 rfl zG))
    · rintro ⟨⟨x0,x1,x3,x4,x6⟩,a0,c0,a1,c1,a2,c2,a4,c3⟩
      try dsimp only
      refine kE ?_
      refine qcb (j:=1) rfl (fun x38 e13 g10 h21=>?_)
      replace h21:a1=some ⟨g10,0,none⟩:=h21
      have h22:=zM (k:=x1.length) (c:=c1) h21
      refine qcb (j:=0) rfl (fun x39 e14 g11 h23=>?_)
      replace h23:a0=some ⟨g11,0,none⟩:=h23
      have h24:=zM (k:=x0.length) (c:=c0) h23
      refine kD mixed [] _ _ (.cons 0 rfl .nil) (qg 0 rfl (qE 1 rfl (qo (qC .i64) e13 h21) (qE 0 rfl (qo (qC .i64) e14 h23) qf))) 15 rfl ?_
      refine qb 0 (qFq g1) rfl rfl rfl (zy rfl) ?_
      refine qb 1 (qFq g1) rfl rfl rfl (zy rfl) ?_
      refine qb 2 (.pointer (some ⟨g1,2,none⟩)) rfl rfl rfl (zd rfl ff183_2) ?_
      refine qB 3 (qFp a1 x1 c1) rfl rfl rfl (qz (i:=0) rfl tf56 rfl rfl (fun _=>rfl) rfl) ?_
      refine qb 4 (qFo x18) rfl rfl rfl (zy rfl) ?_
      refine zW (d:=122) (v:=qFp (some ⟨g10,0,none⟩) x1 c1) rfl (by simp only[qFp,h21] <;> rfl) ?_
      refine qb 5 (.pointer (some ⟨g10,x18.toNat*1,none⟩)) rfl rfl rfl (qbS underlying56 tf3 rfl rfl (qu e13).1 (qcW e13)) ?_
      refine zW (d:=122) (v:=qFp a1 x1 c1) rfl (by simp only[qFp,h21] <;> rfl) ?_
      refine qy 6 (qFo x38) [] rfl rfl rfl (qQ (j:=1) rfl tf3 rfl rfl (fun _=>rfl) rfl) ?_
      refine qb 7 (qFq g1) rfl rfl rfl (zy rfl) ?_
      refine qb 8 (qFq g1) rfl rfl rfl (zy rfl) ?_
      refine qb 9 (.pointer (some ⟨g1,1,none⟩)) rfl rfl rfl (zd rfl ff183_1) ?_
      refine qB 10 (qFp a0 x0 c0) rfl rfl rfl (qz (i:=0) rfl tf56 rfl rfl (fun _=>rfl) rfl) ?_
      refine qb 11 (qFo x18) rfl rfl rfl (zy rfl) ?_
      refine zW (d:=129) (v:=qFp (some ⟨g11,0,none⟩) x0 c0) rfl (by simp only[qFp,h23] <;> rfl) ?_
      refine qb 12 (.pointer (some ⟨g11,x18.toNat*1,none⟩)) rfl rfl rfl (qbS underlying56 tf3 rfl rfl (qu e14).1 (qcW e14)) ?_
      refine zW (d:=129) (v:=qFp a0 x0 c0) rfl (by simp only[qFp,h23] <;> rfl) ?_
      refine qy 13 (qFo x39) [] rfl rfl rfl (qQ (j:=2) rfl tf3 rfl rfl (fun _=>rfl) rfl) ?_
      refine qb 14 (.bool ((x38:Int) == x39)) rfl rfl rfl (zy rfl) ?_
      refine qg1 (by kernel_rfl) ?_
      refine qkD ?_ (by intro c h;cases h)
      refine zC ?_
      refine qky rfl (fun h25=>?_) (fun h25=>?_)
      · refine qU ?_
        refine q7 rfl rfl rfl ?_
        refine q7 rfl rfl rfl ?_
        refine qc6 EnC.e rfl rfl rfl (fun x40 e15=>qhD F g1 x2 a3 c4 x0 a0 c0 x1 a1 c1 x3 a2 c2 x4 a4 c3 x6 x18 x40 e15) (.cons 0 rfl .nil) (.cons 0 rfl (.cons 0 rfl (.cons 0 rfl (.cons 0 rfl .nil)))) (.consF 0 rfl .nil) (fun x40 e15=>?_)
        rintro ⟨⟨a21,c21⟩,⟨a22,c22⟩,⟨a23,c23⟩,a24,c24⟩
        refine zH ?_
        exact yD ((a21,c21),(a22,c22),(a23,c23),a24,c24) (res0 rfl) (hB:=fun h=>by subst h;exact (.cons 0 rfl .nil)) (hR:=fun h=>by subst h;exact (.cons 0 rfl (.cons 0 rfl (.cons 0 rfl (.cons 0 rfl .nil)))))
      · refine qh5 ?_
        exact yD ((a0,c0),(a1,c1),(a2,c2),a4,c3) (res0 rfl) (hB:=fun h=>by subst h;exact (.cons 0 rfl .nil)) (hR:=fun h=>by subst h;exact (.cons 0 rfl (.cons 0 rfl (.cons 0 rfl (.cons 0 rfl .nil)))))
end Go.Proofs.YthibchijlpflmaaGreatDoor
