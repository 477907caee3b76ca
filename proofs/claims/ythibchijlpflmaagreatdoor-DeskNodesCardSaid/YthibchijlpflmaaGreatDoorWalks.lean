/- Each Go function of this seat computes what its model says. -/
import Derived.Test.YthibchijlpflmaaGreatDoorRows
import Derived.Test.YthibchijlpflmaaGreatDoorModels
import Derived.Test.YthibchijlpflmaaGreatDoorShelf
import Derived.Test.YthibchijlpflmaaGreatDoorTxt
open List renaming replicate→qBj, length_set→qBA
namespace Go.Proofs.YthibchijlpflmaaGreatDoor
open Go SX
open Go.Proofs.Tryz
open Go.Proofs.Tryz renaming prog→qD9
abbrev qEa (f:FuncId)(vs:List Value)(s:List (World→Prop))(v:Value):Prop:=Pure qD9 f vs s Unit (fun _=>v) (fun _=>[]) (fun _=>[])
set_option maxHeartbeats 4000000
set_option linter.unusedSimpArgs false
variable {F t1:Nat}{p1:List (qD0)}{l1:qD1}{n1:List (qD1×Nat)}{i1 i2 i3 i4:Int}{m1 m2:qD0}
def eN56 (p:qD0×qD1×Nat):List Value:=[qD3 p.2.1 p.1 p.2.2]
def iN56 (p:qD0×qD1×Nat):List (World→Prop):=[qD5 p.2.1 p.1 p.2.2]
theorem qn:EncOk eN56 1:=⟨fun _=>rfl,fun _=>rfl⟩
def rN56 (p:qD0×qD1×Nat):List RowF:=[FoR (eI .i64) 3 1 (qD3 p.2.1 p.1 p.2.2) p.1]
theorem qdY:∀ p,iN56 p=(rN56 p).map RowF.cells:=fun _=>rfl
theorem qv3:∀ f∈rN56 (([]:qD0),((none,0):qD1×Nat)),f.v=.slice none 0 0∧f.n=0∧f.cs=[]:=by simp[rN56,FoR]
def eS63 (p:(Int×Int)):List Value:=[qD2 p.1,qD2 p.2]
theorem qdV:EncOk eS63 2:=⟨fun _=>rfl,fun _=>rfl⟩
def eS209 (p:(Int×Int)):List Value:=[qD2 p.1,qD2 p.2]
theorem qgi:EncOk eS209 2:=⟨fun _=>rfl,fun _=>rfl⟩
instance tf3:TyF qD9 3 false (qD2 0) 1 8:=.of
instance tf4:TyF qD9 4 false (.bool false) 1 1:=.of
instance tf5:TyF qD9 5 false (.int .u8 0) 1 1:=.of
instance tf9:TyF qD9 9 false (.string (bstr ([]:qD0))) 1 16:=.of
instance tf22:TyF qD9 22 false (.slice none 0 0) 1 24:=.of
instance tf24:TyF qD9 24 true (.agg #[.slice none 0 0]) 1 24:=.of
instance tf26:TyF qD9 26 true (.agg #[qD2 0,qD2 0,qD2 0]) 3 24:=.of
instance tf28:TyF qD9 28 true (.agg #[.slice none 0 0,qD2 0,qD2 0,qD2 0]) 4 48:=.of
instance:TyF qD9 41 false (.slice none 0 0) 1 24:=.of
instance:TyF qD9 48 true (.agg #[.pointer none,.slice none 0 0]) 2 32:=.of
instance tf56:TyF qD9 56 false (.slice none 0 0) 1 24:=.of
instance:TyF qD9 58 false (.slice none 0 0) 1 24:=.of
instance tf63:TyF qD9 63 true (.agg #[qD2 0,qD2 0]) 2 16:=.of
instance tf65:TyF qD9 65 true (.agg #[qD2 0,.slice none 0 0]) 2 32:=.of
instance tf67:TyF qD9 67 true (.agg #[qD2 0,qD2 0,qD2 0,qD2 0,qD2 0,.slice none 0 0]) 6 64:=.of
instance tf69:TyF qD9 69 true (.agg #[qD2 0,qD2 0,qD2 0,qD2 0,.slice none 0 0,qD2 0,.slice none 0 0]) 7 88:=.of
instance tf71:TyF qD9 71 true (.agg #[qD2 0,qD2 0,qD2 0,qD2 0,qD2 0,.slice none 0 0,qD2 0,qD2 0,qD2 0,qD2 0,.slice none 0 0,qD2 0,.slice none 0 0]) 13 152:=.of
instance:TyF qD9 83 false (.pointer none) 1 8:=.of
instance:TyF qD9 86 false (.nilFunc) 1 8:=.of
instance tf88:TyF qD9 88 true (.agg #[qD2 0,.nilFunc]) 2 16:=.of
instance:TyF qD9 107 false (.nilFunc) 1 8:=.of
instance tf119:TyF qD9 119 false (.int .u64 0) 1 8:=.of
instance tf156:TyF qD9 156 true (.agg #[]) 0 0:=.of
instance tf188:TyF qD9 188 true (.agg #[qD2 0,qD2 0,qD2 0]) 3 24:=.of
instance tf204:TyF qD9 204 false (.slice none 0 0) 1 24:=.of
instance tf209:TyF qD9 209 true (.agg #[qD2 0,qD2 0]) 2 16:=.of
instance:TyF qD9 247 true (.agg #[qD2 0,qD2 0,.slice none 0 0]) 3 40:=.of
instance:TyF qD9 293 false (.pointer none) 1 8:=.of
instance tf310:TyF qD9 310 true (.agg #[]) 0 0:=.of
instance:FdF qD9 24 0 0:=.of
instance ff26_0:FdF qD9 26 0 0:=.of
instance:FdF qD9 26 1 1:=.of
instance:FdF qD9 26 2 2:=.of
instance:FdF qD9 28 0 0:=.of
instance:FdF qD9 28 1 1:=.of
instance:FdF qD9 63 0 0:=.of
instance:FdF qD9 63 1 1:=.of
instance:FdF qD9 65 0 0:=.of
instance:FdF qD9 65 1 1:=.of
instance:FdF qD9 67 0 0:=.of
instance ff67_1:FdF qD9 67 1 1:=.of
instance ff67_2:FdF qD9 67 2 4:=.of
instance:FdF qD9 69 0 0:=.of
instance:FdF qD9 69 1 1:=.of
instance:FdF qD9 69 2 2:=.of
instance:FdF qD9 69 3 3:=.of
instance:FdF qD9 69 4 5:=.of
instance ff71_0:FdF qD9 71 0 0:=.of
instance ff71_1:FdF qD9 71 1 6:=.of
instance:FdF qD9 85 0 0:=.of
instance:FdF qD9 85 1 4:=.of
instance:FdF qD9 85 2 5:=.of
instance:FdF qD9 88 0 0:=.of
instance:FdF qD9 88 1 1:=.of
instance:FdF qD9 137 0 0:=.of
instance:FdF qD9 137 1 1:=.of
instance:FdF qD9 169 0 0:=.of
instance:FdF qD9 169 1 6:=.of
instance:FdF qD9 169 2 7:=.of
instance ff174_0:FdF qD9 174 0 0:=.of
instance ff174_1:FdF qD9 174 1 13:=.of
instance ff183_0:FdF qD9 183 0 0:=.of
instance ff183_1:FdF qD9 183 1 1:=.of
instance ff183_2:FdF qD9 183 2 2:=.of
instance ff183_3:FdF qD9 183 3 3:=.of
instance ff183_4:FdF qD9 183 4 4:=.of
instance ff183_5:FdF qD9 183 5 5:=.of
instance:FdF qD9 209 0 0:=.of
instance:FdF qD9 209 1 1:=.of
instance:FdF qD9 247 0 0:=.of
instance:FdF qD9 247 1 1:=.of
instance:FdF qD9 263 0 0:=.of
instance:FdF qD9 263 1 2:=.of
instance:FdF qD9 299 0 0:=.of
instance:FdF qD9 302 0 0:=.of
instance:FdF qD9 302 1 2:=.of
instance:FdF qD9 316 0 0:=.of
instance:FdF qD9 316 1 2:=.of
instance:FdF qD9 359 0 0:=.of
instance:FdF qD9 359 1 1:=.of
instance:FdF qD9 363 0 0:=.of
instance:FdF qD9 363 1 1:=.of
instance:FdF qD9 363 2 2:=.of
instance st24:StF qD9 24 [(0,1)] (.agg #[.slice none 0 0]):=.of
instance st26:StF qD9 26 [(0,1),(1,1),(2,1)] (.agg #[qD2 0,qD2 0,qD2 0]):=.of
instance st28:StF qD9 28 [(0,1),(1,3)] (.agg #[.slice none 0 0,qD2 0,qD2 0,qD2 0]):=.of
instance st63:StF qD9 63 [(0,1),(1,1)] (.agg #[qD2 0,qD2 0]):=.of
instance st65:StF qD9 65 [(0,1),(1,1)] (.agg #[qD2 0,.slice none 0 0]):=.of
instance:StF qD9 67 [(0,1),(1,3),(4,2)] (.agg #[qD2 0,qD2 0,qD2 0,qD2 0,qD2 0,.slice none 0 0]):=.of
instance:StF qD9 69 [(0,1),(1,1),(2,1),(3,2),(5,2)] (.agg #[qD2 0,qD2 0,qD2 0,qD2 0,.slice none 0 0,qD2 0,.slice none 0 0]):=.of
instance:StF qD9 71 [(0,6),(6,7)] (.agg #[qD2 0,qD2 0,qD2 0,qD2 0,qD2 0,.slice none 0 0,qD2 0,qD2 0,qD2 0,qD2 0,.slice none 0 0,qD2 0,.slice none 0 0]):=.of
instance:StF qD9 85 [(0,4),(4,1),(5,1)] (.agg #[.slice none 0 0,qD2 0,qD2 0,qD2 0,.slice none 0 0,.string (bstr ([]:qD0))]):=.of
instance:StF qD9 88 [(0,1),(1,1)] (.agg #[qD2 0,.nilFunc]):=.of
instance:StF qD9 137 [(0,1),(1,1)] (.agg #[.slice none 0 0,.slice none 0 0]):=.of
instance:StF qD9 156 [] (.agg #[]):=.of
instance:StF qD9 169 [(0,6),(6,1),(7,1)] (.agg #[qD2 0,qD2 0,qD2 0,qD2 0,qD2 0,.slice none 0 0,.slice none 0 0,.slice none 0 0]):=.of
instance:StF qD9 174 [(0,13),(13,1)] (.agg #[qD2 0,qD2 0,qD2 0,qD2 0,qD2 0,.slice none 0 0,qD2 0,qD2 0,qD2 0,qD2 0,.slice none 0 0,qD2 0,.slice none 0 0,qD2 0]):=.of
instance:StF qD9 183 [(0,1),(1,1),(2,1),(3,1),(4,1),(5,1)] (.agg #[.slice none 0 0,.slice none 0 0,.slice none 0 0,.slice none 0 0,.slice none 0 0,qD2 0]):=.of
instance:StF qD9 209 [(0,1),(1,1)] (.agg #[qD2 0,qD2 0]):=.of
instance:StF qD9 247 [(0,1),(1,2)] (.agg #[qD2 0,qD2 0,.slice none 0 0]):=.of
instance:StF qD9 263 [(0,2),(2,1)] (.agg #[qD2 0,.slice none 0 0,qD2 0]):=.of
instance st299:StF qD9 299 [(0,2)] (.agg #[qD2 0,.slice none 0 0]):=.of
instance:StF qD9 302 [(0,2),(2,1)] (.agg #[qD2 0,.slice none 0 0,qD2 0]):=.of
instance:StF qD9 310 [] (.agg #[]):=.of
instance:StF qD9 316 [(0,2),(2,1)] (.agg #[qD2 0,.slice none 0 0,.bool false]):=.of
instance:StF qD9 359 [(0,1),(1,1)] (.agg #[qD2 0,.bool false]):=.of
instance:StF qD9 363 [(0,1),(1,1),(2,1)] (.agg #[.slice none 0 0,.bool false,qD2 0]):=.of
instance se63:StE2 qD9 63 .i64 .i64:=⟨_,_,underlying63,by kernel_rfl,by kernel_rfl,by decide,by decide,rfl,rfl,underlying3,underlying3⟩
theorem mixed:qD9.follows .mixedOrders=true:=by kernel_rfl
instance:EnC qD9 10:=.of func10
instance:EnC qD9 11:=.of func11
instance:EnC qD9 12:=.of func12
instance:EnC qD9 13:=.of func13
instance:EnC qD9 14:=.of func14
instance:EnC qD9 19:=.of func19
instance:EnC qD9 20:=.of func20
instance:EnC qD9 21:=.of func21
instance:EnC qD9 22:=.of func22
instance:EnC qD9 23:=.of func23
instance:EnC qD9 24:=.of func24
instance:EnC qD9 25:=.of func25
instance:EnC qD9 26:=.of func26
instance:EnC qD9 43:=.of func43
instance:EnC qD9 44:=.of func44
instance:EnC qD9 46:=.of func46
instance:EnC qD9 58:=.of func58
instance:EnC qD9 59:=.of func59
instance:EnC qD9 60:=.of func60
instance:EnC qD9 61:=.of func61
instance:EnC qD9 62:=.of func62
instance:EnC qD9 63:=.of func63
instance:EnC qD9 64:=.of func64
instance:EnC qD9 65:=.of func65
instance:EnC qD9 66:=.of func66
instance:EnC qD9 67:=.of func67
instance:EnC qD9 68:=.of func68
instance:EnC qD9 69:=.of func69
instance:EnC qD9 70:=.of func70
instance:EnC qD9 71:=.of func71
instance:EnC qD9 82:=.of func82
instance:EnC qD9 83:=.of func83
instance:EnC qD9 84:=.of func84
instance:EnC qD9 85:=.of func85
instance:EnC qD9 86:=.of func86
instance:EnC qD9 87:=.of func87
instance:EnC qD9 88:=.of func88
instance:EnC qD9 89:=.of func89
instance:EnC qD9 90:=.of func90
instance:EnC qD9 91:=.of func91
instance:EnC qD9 92:=.of func92
instance:EnC qD9 93:=.of func93
instance:EnC qD9 94:=.of func94
instance:EnC qD9 95:=.of func95
instance:EnC qD9 96:=.of func96
instance:EnC qD9 97:=.of func97
instance:EnC qD9 98:=.of func98
instance:EnC qD9 99:=.of func99
instance:EnC qD9 100:=.of func100
instance:EnC qD9 113:=.of func113
instance:EnC qD9 114:=.of func114
instance:EnC qD9 115:=.of func115
instance:EnC qD9 116:=.of func116
instance:EnC qD9 117:=.of func117
instance:EnC qD9 118:=.of func118
instance:EnC qD9 119:=.of func119
instance:EnC qD9 120:=.of func120
instance:EnC qD9 121:=.of func121
instance:EnC qD9 122:=.of func122
instance:EnC qD9 123:=.of func123
instance:EnC qD9 124:=.of func124
instance:EnC qD9 125:=.of func125
instance:EnC qD9 126:=.of func126
instance:EnC qD9 127:=.of func127
instance:EnC qD9 128:=.of func128
instance:EnC qD9 129:=.of func129
instance:EnC qD9 130:=.of func130
instance:EnC qD9 131:=.of func131
instance:EnC qD9 132:=.of func132
instance:EnC qD9 133:=.of func133
instance:EnC qD9 134:=.of func134
instance:EnC qD9 135:=.of func135
instance:EnC qD9 136:=.of func136
instance:EnC qD9 148:=.of func148
instance:EnC qD9 158:=.of func158
instance:EnC qD9 159:=.of func159
instance:EnC qD9 160:=.of func160
instance:EnC qD9 161:=.of func161
instance:EnC qD9 162:=.of func162
instance:EnC qD9 163:=.of func163
instance:EnC qD9 164:=.of func164
instance:EnC qD9 165:=.of func165
instance:EnC qD9 166:=.of func166
instance:EnC qD9 167:=.of func167
instance:EnC qD9 168:=.of func168
instance:EnC qD9 169:=.of func169
instance:EnC qD9 170:=.of func170
instance:EnC qD9 171:=.of func171
instance:EnC qD9 173:=.of func173
instance:EnC qD9 174:=.of func174
instance:EnC qD9 175:=.of func175
instance:EnC qD9 176:=.of func176
instance:EnC qD9 179:=.of func179
instance:EnC qD9 180:=.of func180
instance:EnC qD9 190:=.of func190
instance:EnC qD9 191:=.of func191
instance:EnC qD9 192:=.of func192
instance:EnC qD9 193:=.of func193
instance:EnC qD9 194:=.of func194
instance:EnC qD9 195:=.of func195
instance:EnC qD9 196:=.of func196
instance:EnC qD9 197:=.of func197
instance:EnC qD9 198:=.of func198
instance:EnC qD9 199:=.of func199
instance:EnC qD9 200:=.of func200
instance:EnC qD9 201:=.of func201
instance:EnC qD9 204:=.of func204
instance:EnC qD9 205:=.of func205
instance:EnC qD9 212:=.of func212
instance:EnC qD9 216:=.of func216
instance:EnC qD9 230:=.of func230
instance:EnC qD9 231:=.of func231
instance:EnC qD9 232:=.of func232
instance:EnC qD9 233:=.of func233
instance:EnC qD9 234:=.of func234
instance:EnC qD9 235:=.of func235
instance:EnC qD9 236:=.of func236
instance:EnC qD9 237:=.of func237
instance:EnC qD9 238:=.of func238
instance:EnC qD9 239:=.of func239
instance:EnC qD9 240:=.of func240
instance:EnC qD9 241:=.of func241
instance:EnC qD9 242:=.of func242
instance:EnC qD9 243:=.of func243
instance:EnC qD9 244:=.of func244
instance:EnC qD9 245:=.of func245
instance:EnC qD9 246:=.of func246
instance:EnC qD9 247:=.of func247
instance:EnC qD9 248:=.of func248
instance:EnC qD9 258:=.of func258
instance:EnC qD9 259:=.of func259
instance:EnC qD9 260:=.of func260
instance:EnC qD9 261:=.of func261
instance:EnC qD9 262:=.of func262
instance:EnC qD9 263:=.of func263
instance:EnC qD9 264:=.of func264
instance:EnC qD9 265:=.of func265
instance:EnC qD9 266:=.of func266
instance:EnC qD9 267:=.of func267
instance:EnC qD9 268:=.of func268
instance:EnC qD9 269:=.of func269
instance:EnC qD9 270:=.of func270
instance:EnC qD9 271:=.of func271
instance:EnC qD9 272:=.of func272
instance:EnC qD9 273:=.of func273
instance:EnC qD9 274:=.of func274
instance:EnC qD9 275:=.of func275
instance:EnC qD9 276:=.of func276
instance:EnC qD9 277:=.of func277
instance:EnC qD9 278:=.of func278
instance:EnC qD9 279:=.of func279
instance:EnC qD9 280:=.of func280
instance:EnC qD9 281:=.of func281
instance:EnC qD9 284:=.of func284
instance:EnC qD9 285:=.of func285
instance:EnC qD9 286:=.of func286
instance:EnC qD9 287:=.of func287
instance:EnC qD9 288:=.of func288
instance:EnC qD9 289:=.of func289
instance:EnC qD9 290:=.of func290
instance:EnC qD9 291:=.of func291
instance:EnC qD9 292:=.of func292
instance:EnC qD9 293:=.of func293
instance:EnC qD9 294:=.of func294
instance:EnC qD9 295:=.of func295
instance:EnC qD9 296:=.of func296
instance:EnC qD9 297:=.of func297
instance:EnC qD9 298:=.of func298
instance:EnC qD9 299:=.of func299
instance:EnC qD9 300:=.of func300
instance:EnC qD9 301:=.of func301
instance:EnC qD9 302:=.of func302
instance:EnC qD9 303:=.of func303
instance:EnC qD9 304:=.of func304
instance:EnC qD9 305:=.of func305
instance:EnC qD9 306:=.of func306
instance:EnC qD9 307:=.of func307
theorem qxX (v:Value)(w:World):(Instr.makeInterface 310 v).run qD9 w=.ok (.iface 310 v) w:=by simp[Instr.makeInterface,run_underlying underlying310]
abbrev lostCh:List PanicEntry:=[{ v:=.iface 310 (.agg #[]),recovered:=false }]
theorem qxR (p q:Addr):qmr qD9 243 #[.pointer (some p),.pointer (some q)]:=by
  intro w
  refine callsD_of_wpS func243 rfl fun c₀ cs hu=>?_
  apply wpS_seq
  apply wpS_region
  simp[wpOpsS,go_sem,recoverD,hu,ntmps243,Exit.thenS]
  refine wpS_of_wp ?_
  go_wp2
  cases c₀
  simp_all [bodyPostS,results,Tryz.results243]
theorem qtk (w:World):(Instr.typeAssert (.iface 310 (.agg #[])) 20 310 true).run qD9 w=.ok (.tuple #[.agg #[],.bool true]) w:=by
  simp[Instr.typeAssert,run_underlying underlying310]
theorem eqn243 (x y:Operand)(w:World):(do eqGuard .eql 20 x y (.iface 310 (.agg #[])) .nilIface;binOp .eql 20 (.iface 310 (.agg #[])) .nilIface:Sem Value).run qD9 w=.ok (.bool false) w:=by
  simp[go_sem]
set_option maxRecDepth 100000 in
theorem qi9 (g1 g2:Nat)(v1 v2:Value):qms qD9 243 #[qD4 g1,qD4 g2] 310 (.agg #[]) [⟨g1,56,[v1]⟩,⟨g2,4,[v2]⟩] [⟨g1,56,[.slice none 0 0]⟩,⟨g2,4,[.bool false]⟩]:=by
  intro w hp
  refine callsD_of_wpS func243 rfl fun c₀ cs hu=>?_
  apply wpS_seq
  apply wpS_region
  simp[wpOpsS,go_sem,recoverD,hu,ntmps243,Exit.thenS]
  refine wpS_of_wp (qhl.1 ?_)
  refine (show SXC qD9 none 11 [] (muts [⟨g1,56,[v1]⟩,⟨g2,4,[v2]⟩] []) w _ _ [(0,.pointer (some ⟨g1,0,none⟩)),(1,.pointer (some ⟨g2,0,none⟩)),(5,.iface 310 (.agg #[]))] [⟨g1,56,[v1]⟩,⟨g2,4,[v2]⟩] [] [] (some ()) () from ?_) rfl _ _ ⟨rfl,by simp,fun i v hv=>?_⟩ hp
  · refine qgt ?_
    refine kj ?_
    refine qP ?_
    refine qp3 rfl rfl rfl (eqn243 _ _) rfl ?_
    refine zC ?_
    refine zx ?_
    refine k8 (b:=false) rfl (fun h=>by cases h) (fun _=>?_)
    refine kj ?_
    refine qP ?_
    refine qoi rfl rfl qtk rfl ?_
    refine qak rfl rfl rfl rfl ?_
    refine qak rfl rfl rfl rfl ?_
    refine zC ?_
    refine zx ?_
    refine k8 (b:=true) rfl (fun _=>?_) (fun h=>by cases h)
    refine kj ?_
    refine qP ?_
    refine qj2 rfl tf310 rfl (fun g=>?_)
    refine kA (i:=0) rfl rfl rfl tf310 rfl rfl rfl rfl rfl ?_
    refine zC ?_
    refine zx ?_
    refine qP ?_
    refine kA (i:=1) rfl rfl rfl tf56 rfl rfl rfl rfl rfl ?_
    refine kA (i:=2) rfl rfl rfl tf4 rfl rfl rfl rfl rfl ?_
    refine zC ?_
    refine qee ?_
    intro _ a w' hf hp'
    exact ⟨hf.defers,_,rfl,_,results_none rfl _ _ _,rfl,rfl,hp'.pick (.cons 1 rfl (.cons 1 rfl .nil)) .nil (by simp)⟩
  · simp only[qab] at hv
    split at hv
    · rename_i h;subst h;simpa using hv
    · split at hv
      · rename_i h;subst h;simpa using hv
      · split at hv
        · rename_i h;subst h;simpa using hv
        · cases hv
theorem qrb (cb:Array Value):qnz qD9 160 118 2 (fun l=>.agg l.toArray) cb :=
  qtX fun _ _ enc hk h1 cf hO blk cap d w hc hH hb hsz hT=>Go.Proofs.AnyQ.slices_SortFunc_total Tryz.sortf160 2 tf63.run_isAgg tf63.run_size enc hk h1 cf hO 118 cb blk 0 cap d w EnC.e hc hH hb hsz hT
instance:UnF qD9 2 (.int .i64):=⟨underlying2⟩
instance:UnF qD9 3 (.int .i64):=⟨underlying3⟩
instance:UnF qD9 4 .bool:=⟨underlying4⟩
instance:UnF qD9 5 (.int .u8):=⟨underlying5⟩
instance:UnF qD9 9 .string:=⟨underlying9⟩
instance:UnF qD9 22 (.slice 56):=⟨underlying22⟩
instance:UnF qD9 39 (.slice 9):=⟨underlying39⟩
instance:UnF qD9 41 (.slice 5):=⟨underlying41⟩
instance:UnF qD9 56 (.slice 3):=⟨underlying56⟩
instance:UnF qD9 58 (.slice 63):=⟨underlying58⟩
instance:UnF qD9 119 (.int .u64):=⟨underlying119⟩
instance:UnF qD9 196 (.int .u64):=⟨underlying196⟩
instance:UnF qD9 199 (.int .u32):=⟨underlying199⟩
instance:UnF qD9 204 (.slice 209):=⟨underlying204⟩
instance:UnF qD9 211 (.slice 119):=⟨underlying211⟩
theorem stm (c:Nat)(q:List Nat){p:List Nat}{A:Prop}(h:Stp (q++p) A):Stp (c::p) A:=⟨h.go⟩
set_option maxRecDepth 100000 in
theorem au0 (p:List Nat){A B:Prop}(t:B→Stp p A:=by
  intro h
  repeat (first
    | exact stp0 h
    | (refine stc 39 ?_;refine stk (fun h=>h) ?_;try dsimp only)
    | (refine stc 0 ?_;refine stk (fun h=>zC h) ?_)
    | (refine stc 1 ?_;refine stk (fun h=>kj h) ?_)
    | (refine stc 2 ?_;refine stk (fun h=>zx h) ?_)
    | (refine stc 3 ?_;refine stk (fun h=>qU rfl rfl rfl h) ?_)
    | (refine stc 4 ?_;refine stk (fun h=>qP h) ?_)
    | (refine stc 5 ?_;refine stk (fun h=>kz rfl rfl rfl h) ?_)
    | (refine stc 6 ?_;refine qjj rfl rfl rfl (zn rfl) ?_)
    | (refine stc 7 ?_;refine stk (fun h=>qwU rfl rfl rfl h) ?_)
    | (refine stc 8 ?_;refine stk (fun h=>qoh h) ?_)
    | (refine stc 9 ?_;refine qyo rfl (by kernel_rfl) rfl ?_)
    | (refine stc 10 ?_;refine stk (fun h=>qR rfl rfl inferInstance rfl h) ?_)
    | (refine stc 11 ?_;refine stk (fun h=>qj1 rfl (And.left h) (And.right h)) ?_)
    | (refine stc 12 ?_;refine stk (fun h=>qhx h) ?_)
    | (refine stc 13 ?_;refine stk (fun h=>quk h) ?_)
    | (refine stc 14 ?_;refine stk (fun h=>qgt h) ?_)
    | (refine stc 15 ?_;refine stk (fun h=>qgr (by kernel_rfl) h) ?_)
    | (refine stc 16 ?_;refine stk (fun h=>qj6 h) ?_)
    | (refine stc 17 ?_;refine stk (fun h=>kA (i:=0) rfl rfl rfl inferInstance rfl rfl rfl rfl rfl h) ?_)
    | (refine stc 18 ?_;refine qjj rfl rfl rfl (qZ rfl inferInstance) ?_)
    | (refine stc 19 ?_;refine qyn rfl rfl rfl ?_)
    | (refine stc 20 ?_;refine stk (fun h=>zO (i:=0) rfl rfl inferInstance rfl rfl (fun _=>rfl) rfl rfl h) ?_)
    | (refine stc 21 ?_;refine stk (fun h=>qj7 h) ?_)
    | (refine stc 22 ?_;refine stk (fun h=>qak rfl rfl rfl rfl h) ?_)
    | (refine stc 23 ?_;refine stk (fun h=>qkB rfl rfl rfl rfl h) ?_)
    | (refine stc 24 ?_;first
      | (refine sta 0 ?_;refine stk (fun h=>qyv rfl rfl rfl h) ?_)
      | (refine sta 1 ?_;exact stz (qui))
      | (refine sta 2 ?_;refine stk (fun h=>qj2 rfl inferInstance rfl h) ?_)
      | (refine sta 3 ?_;refine stk (fun h=>qee h) ?_)
      | (refine sta 4 ?_;refine stk (fun h=>qom rfl rfl rfl rfl h) ?_)
      | (refine sta 5 ?_;exact stz (qx ()))
      | (refine sta 6 ?_;refine stk (fun h=>qwW h) ?_)
      | (refine sta 7 ?_;refine stk (fun h=>qol rfl UnF.u rfl rfl h) ?_)
      | (refine sta 8 ?_;refine stk (fun h=>qp7 (b:=true) rfl rfl rfl rfl h) ?_)
      | (refine sta 9 ?_;refine stk (fun h=>qp7 (b:=false) rfl rfl rfl rfl h) ?_)
      | (refine sta 10 ?_;refine stk (fun h=>qwy h) ?_)
      | (refine sta 11 ?_;refine stk (fun h=>zT rfl rfl rfl h) ?_)
      | (refine sta 12 ?_;refine stk (fun h=>zO (i:=0) rfl rfl inferInstance rfl rfl (by simp) rfl rfl h) ?_)
      | (refine sta 13 ?_;refine stk (fun h=>qpY h) ?_)
      | (refine sta 14 ?_;refine stk (fun h=>qp8 h) ?_)
      | (refine sta 15 ?_;refine qji rfl rfl rfl (qq (i:=0) rfl inferInstance rfl rfl (fun _=>rfl) rfl) ?_))
    | (refine stc 25 ?_;first
      | (refine sta 0 ?_;refine stk (fun h=>qwx h) ?_)
      | (refine sta 1 ?_;refine stk (fun h=>qs0 rfl rfl rfl rfl h) ?_)
      | (refine sta 2 ?_;refine stk (fun h=>zm [0] [0] h) ?_)
      | (refine sta 3 ?_;refine stk (fun h=>qhK (j:=0) rfl rfl inferInstance rfl rfl (fun _=>rfl) rfl rfl h) ?_)
      | (refine sta 4 ?_;refine stk (fun h=>qyG rfl rfl rfl rfl h) ?_)
      | (refine sta 5 ?_;refine stk (fun h=>kA (i:=1) rfl rfl rfl inferInstance rfl rfl rfl rfl rfl h) ?_)
      | (refine sta 6 ?_;refine stk (fun h=>qsZ rfl rfl rfl rfl h) ?_)
      | (refine sta 7 ?_;refine stk (fun h=>qyH rfl rfl rfl h) ?_)
      | (refine sta 8 ?_;refine stk (fun h=>qfp Int (eI .i64) 3 1 h) ?_)
      | (refine sta 9 ?_;refine stk (fun h=>qs3 rfl rfl rfl rfl h) ?_)
      | (refine sta 10 ?_;refine stk (fun h=>qwI rfl UnF.u UnF.u rfl rfl h) ?_)
      | (refine sta 11 ?_;refine stk (fun h=>zO (i:=1) rfl rfl inferInstance rfl rfl (by simp) rfl rfl h) ?_)
      | (refine sta 12 ?_;refine stk (fun h=>zO (i:=1) rfl rfl inferInstance rfl rfl (fun _=>rfl) rfl rfl h) ?_)
      | (refine sta 13 ?_;refine stk (fun h=>quj h) ?_)
      | (refine sta 14 ?_;refine stk (fun h=>zm [1] [0] h) ?_)
      | (refine sta 15 ?_;exact stz (qH ())))
    | (refine stc 26 ?_;first
      | (refine sta 0 ?_;refine stk (fun h=>zm [1,1] [0] h) ?_)
      | (refine sta 1 ?_;refine stk (fun h=>zO (i:=2) rfl rfl inferInstance rfl rfl (fun _=>rfl) rfl rfl h) ?_)
      | (refine sta 2 ?_;refine stk (fun h=>qfp Int (eI .u8) 5 1 h) ?_)
      | (refine sta 3 ?_;refine stk (fun h=>qwR (qA .i64) rfl UnF.u inferInstance rfl rfl rfl rfl rfl rfl rfl h) ?_)
      | (refine sta 4 ?_;refine stk (fun h=>vL (j:=0) (qA .i64) (by decide) rfl UnF.u inferInstance rfl rfl rfl rfl h) ?_)
      | (refine sta 5 ?_;refine stk (fun h=>qAu (And.left h) (And.right h)) ?_)
      | (refine sta 6 ?_;refine stk (fun h=>qyy rfl rfl rfl rfl h) ?_)
      | (refine sta 7 ?_;refine stk (fun h=>qcv (j:=0) rfl UnF.u inferInstance rfl rfl rfl rfl h) ?_)
      | (refine sta 8 ?_;refine stk (fun h=>qwz h) ?_)
      | (refine sta 9 ?_;refine stk (fun h=>zO (i:=2) rfl rfl inferInstance rfl rfl (by simp) rfl rfl h) ?_)
      | (refine sta 10 ?_;refine qji rfl rfl rfl (qq (i:=1) rfl inferInstance rfl rfl (fun _=>rfl) rfl) ?_)
      | (refine sta 11 ?_;refine stk (fun h=>qfF Int (eI .i64) 3 1 h) ?_)
      | (refine sta 12 ?_;refine stk (fun h=>qyx h) ?_)
      | (refine sta 13 ?_;refine stk (fun h=>qd qtg h) ?_)
      | (refine sta 14 ?_;exact stz (qa ((),())))
      | (refine sta 15 ?_;refine stk (fun h=>qwF rfl UnF.u rfl rfl rfl h) ?_))
    | (refine stc 27 ?_;first
      | (refine sta 0 ?_;refine stk (fun h=>qwP h) ?_)
      | (refine sta 1 ?_;refine stk (fun h=>zm [2] [0] h) ?_)
      | (refine sta 2 ?_;refine stk (fun h=>qwY (qD0) (qD1×Nat) eN56 rN56 56 1 h) ?_)
      | (refine sta 3 ?_;refine stk (fun h=>kA (i:=6) rfl rfl rfl inferInstance rfl rfl rfl rfl rfl h) ?_)
      | (refine sta 4 ?_;refine stk (fun h=>zm [1] [0,1] h) ?_)
      | (refine sta 5 ?_;refine stk (fun h=>zm [1,1,1] [0,1] h) ?_)
      | (refine sta 6 ?_;refine stk (fun h=>qix (j:=0) qn (by decide) rfl UnF.u inferInstance rfl rfl rfl rfl h) ?_)
      | (refine sta 7 ?_;refine stk (fun h=>qjn rfl rfl rfl rfl rfl h) ?_)
      | (refine sta 8 ?_;refine stk (fun h=>qd qgb h) ?_)
      | (refine sta 9 ?_;refine stk (fun h=>qon rfl rfl rfl h) ?_)
      | (refine sta 10 ?_;refine stk (fun h=>qrj 0 rfl h) ?_)
      | (refine sta 11 ?_;refine stk (fun h=>qpX 0 qD rfl h) ?_)
      | (refine sta 12 ?_;refine stk (fun h=>qs qiH h) ?_)
      | (refine sta 13 ?_;refine stk (fun h=>kA (i:=2) rfl rfl rfl inferInstance rfl rfl rfl rfl rfl h) ?_)
      | (refine sta 14 ?_;refine stk (fun h=>qc (.cons 0 rfl (.cons 1 rfl .nil)) (qh 0 rfl (qgl 1 rfl qf)) h) ?_)
      | (refine sta 15 ?_;refine stk (fun h=>qyD rfl rfl rfl rfl h) ?_))
    | (refine stc 28 ?_;first
      | (refine sta 0 ?_;refine stk (fun h=>qdD Int (eI .i64) 3 1 h) ?_)
      | (refine sta 1 ?_;refine stk (fun h=>qmp rfl rfl rfl h) ?_)
      | (refine sta 2 ?_;refine stk (fun h=>zm [1] [0,1,2] h) ?_)
      | (refine sta 3 ?_;exact stz (qj5 (.cons 0 rfl .nil)))
      | (refine sta 4 ?_;refine stk (fun h=>qE [] [1,1] [0,1,2] 8 h) ?_)
      | (refine sta 5 ?_;refine stk (fun h=>zm [1,1] [0,1,2] h) ?_)
      | (refine sta 6 ?_;refine stk (fun h=>qd qoG h) ?_)
      | (refine sta 7 ?_;refine stk (fun h=>qd ql3 h) ?_)
      | (refine sta 8 ?_;refine qjj rfl rfl rfl (qAD UnF.u rfl) ?_)
      | (refine sta 9 ?_;refine stk (fun h=>qgu (j:=1) (qA .i64) (by decide) rfl h) ?_)
      | (refine sta 10 ?_;refine stk (fun h=>qyz rfl rfl rfl rfl h) ?_)
      | (refine sta 11 ?_;refine stk (fun h=>qyt h) ?_)
      | (refine sta 12 ?_;refine stk (fun h=>qwA h) ?_)
      | (refine sta 13 ?_;refine stk (fun h=>qwV h) ?_)
      | (refine sta 14 ?_;refine stk (fun h=>zm [0,0] [0] h) ?_)
      | (refine sta 15 ?_;refine stk (fun h=>qyu rfl rfl rfl rfl h) ?_))
    | (refine stc 29 ?_;first
      | (refine sta 0 ?_;refine stk (fun h=>qyB rfl rfl rfl rfl h) ?_)
      | (refine sta 1 ?_;refine stk (fun h=>qcv (j:=1) rfl UnF.u inferInstance rfl rfl rfl rfl h) ?_)
      | (refine sta 2 ?_;refine qji rfl rfl rfl (qq (i:=2) rfl inferInstance rfl rfl (fun _=>rfl) rfl) ?_)
      | (refine sta 3 ?_;refine stk (fun h=>zO (i:=3) rfl rfl inferInstance rfl rfl (fun _=>rfl) rfl rfl h) ?_)
      | (refine sta 4 ?_;refine stk (fun h=>qd qqh h) ?_)
      | (refine sta 5 ?_;refine stk (fun h=>qs qhU h) ?_)
      | (refine sta 6 ?_;refine stk (fun h=>zm [0] [0,1] h) ?_)
      | (refine sta 7 ?_;refine stk (fun h=>qwM rfl UnF.u rfl rfl rfl h) ?_)
      | (refine sta 8 ?_;refine stk (fun h=>zw [-1] h) ?_)
      | (refine sta 9 ?_;refine stk (fun h=>vL (j:=1) (qA .i64) (by decide) rfl UnF.u inferInstance rfl rfl rfl rfl h) ?_)
      | (refine sta 10 ?_;refine stk (fun h=>qpZ (j:=1) rfl h) ?_)
      | (refine sta 11 ?_;refine stk (fun h=>qhK (j:=0) rfl rfl inferInstance rfl rfl (by simp) rfl rfl h) ?_)
      | (refine sta 12 ?_;refine stk (fun h=>qd qtf h) ?_)
      | (refine sta 13 ?_;refine stk (fun h=>zm [0,0,0,0,0] [0] h) ?_)
      | (refine sta 14 ?_;refine stk (fun h=>qfF Int (eI .u8) 5 1 h) ?_)
      | (refine sta 15 ?_;refine stk (fun h=>kQ 24 rfl (by kernel_rfl) (.cons 0 rfl (.cons 1 rfl .nil)) h) ?_))
    | (refine stc 30 ?_;first
      | (refine sta 0 ?_;refine stk (fun h=>qAt (And.left h) (And.right h)) ?_)
      | (refine sta 1 ?_;refine stk (fun h=>qd qnt h) ?_)
      | (refine sta 2 ?_;refine stk (fun h=>qyC (rin:=rN56) (y:=([]:qD0)) (q:=((none,0):qD1×Nat)) qn (by decide) qv3 rfl UnF.u inferInstance rfl rfl rfl rfl rfl rfl h) ?_)
      | (refine sta 3 ?_;refine stk (fun h=>qpZ (j:=0) rfl h) ?_)
      | (refine sta 4 ?_;exact stz (qwE))
      | (refine sta 5 ?_;exact stz (zW (none,0,([]:List (qD1×Nat))) 0))
      | (refine sta 6 ?_;refine stk (fun h=>qgu (j:=2) (qA .i64) (by decide) rfl h) ?_)
      | (refine sta 7 ?_;refine stk (fun h=>qbJ (j:=0) rfl h) ?_)
      | (refine sta 8 ?_;refine stk (fun h=>qt6 (And.left h) (And.right h)) ?_)
      | (refine sta 9 ?_;refine stk (fun h=>kA (i:=3) rfl rfl rfl inferInstance rfl rfl rfl rfl rfl h) ?_)
      | (refine sta 10 ?_;refine stk (fun h=>qd qni h) ?_)
      | (refine sta 11 ?_;refine stk (fun h=>zm [1,1] [0,1,2,3] h) ?_)
      | (refine sta 12 ?_;refine stk (fun h=>qs qoQ h) ?_)
      | (refine sta 13 ?_;refine stk (fun h=>qhM (i:=3) rfl h) ?_)
      | (refine sta 14 ?_;refine stk (fun h=>qd qki h) ?_)
      | (refine sta 15 ?_;refine stk (fun h=>zm [0,0] [] h) ?_))
    | (refine stc 31 ?_;first
      | (refine sta 0 ?_;refine stk (fun h=>qgu (j:=0) (qA .i64) (by decide) rfl h) ?_)
      | (refine sta 1 ?_;refine stk (fun h=>qs qh5 h) ?_)
      | (refine sta 2 ?_;refine stk (fun h=>qop rfl rfl rfl rfl rfl h) ?_)
      | (refine sta 3 ?_;refine stk (fun h=>qs qoH h) ?_)
      | (refine sta 4 ?_;refine stk (fun h=>qdD Int (eI .u8) 5 1 h) ?_)
      | (refine sta 5 ?_;refine stk (fun h=>qd qnm h) ?_)
      | (refine sta 6 ?_;refine stk (fun h=>qd qoI h) ?_)
      | (refine sta 7 ?_;refine stk (fun h=>qd qfI h) ?_)
      | (refine sta 8 ?_;refine stk (fun h=>zm [0,0,0] [0,1,2,3] h) ?_)
      | (refine sta 9 ?_;refine stk (fun h=>qd qnc h) ?_)
      | (refine sta 10 ?_;refine stk (fun h=>zo 0 (qA .i64) rfl UnF.u inferInstance rfl rfl rfl rfl rfl (.inr ⟨0,rfl⟩) rfl rfl h) ?_)
      | (refine sta 11 ?_;refine stk (fun h=>qd qgz h) ?_)
      | (refine sta 12 ?_;refine stk (fun h=>qwN (j:=0) rfl UnF.u inferInstance rfl rfl rfl rfl h) ?_)
      | (refine sta 13 ?_;refine stk (fun h=>qs qg2 h) ?_)
      | (refine sta 14 ?_;refine stk (fun h=>vL (j:=0) qdV (by decide) rfl UnF.u inferInstance rfl rfl rfl rfl h) ?_)
      | (refine sta 15 ?_;refine stk (fun h=>qc .nil (qh 0 rfl (qh 1 rfl (qh 2 rfl (qgl 0 rfl qf)))) h) ?_))
    | (refine stc 32 ?_;first
      | (refine sta 0 ?_;refine stk (fun h=>qyI rfl rfl rfl rfl rfl h) ?_)
      | (refine sta 1 ?_;refine stk (fun h=>zO (i:=3) rfl rfl inferInstance rfl rfl (by simp) rfl rfl h) ?_)
      | (refine sta 2 ?_;refine stk (fun h=>qd qiM h) ?_)
      | (refine sta 3 ?_;refine stk (fun h=>qc .nil (qgl 0 rfl qf) h) ?_)
      | (refine sta 4 ?_;refine stk (fun h=>qd qd3 h) ?_)
      | (refine sta 5 ?_;refine qji rfl rfl rfl (qq (i:=3) rfl inferInstance rfl rfl (fun _=>rfl) rfl) ?_)
      | (refine sta 6 ?_;refine stk (fun h=>vL (j:=0) qgi (by decide) rfl UnF.u inferInstance rfl rfl rfl rfl h) ?_)
      | (refine sta 7 ?_;refine stk (fun h=>qwB h) ?_)
      | (refine sta 8 ?_;refine stk (fun h=>qs qqn h) ?_)
      | (refine sta 9 ?_;exact stz (zW (none,0) 1))
      | (refine sta 10 ?_;refine stk (fun h=>qd qna h) ?_)
      | (refine sta 11 ?_;refine stk (fun h=>qiw 0 rfl h) ?_)
      | (refine sta 12 ?_;refine stk (fun h=>zY 0 _ rfl rfl rfl (zn rfl) rfl h) ?_)
      | (refine sta 13 ?_;refine stk (fun h=>zY 1 _ rfl rfl rfl (zn rfl) rfl h) ?_)
      | (refine sta 14 ?_;refine stk (fun h=>zY 2 _ rfl rfl rfl (qZ rfl inferInstance) rfl h) ?_)
      | (refine sta 15 ?_;refine stk (fun h=>zY 4 _ rfl rfl rfl (zn rfl) rfl h) ?_))
    | (refine stc 33 ?_;first
      | (refine sta 0 ?_;refine stk (fun h=>zm [0,0,0,0] [0] h) ?_)
      | (refine sta 1 ?_;refine stk (fun h=>zm [0,0] [0,1] h) ?_)
      | (refine sta 2 ?_;refine stk (fun h=>zm [0,0,0] [0,1] h) ?_)
      | (refine sta 3 ?_;refine stk (fun h=>quc rfl UnF.u rfl rfl rfl h) ?_)
      | (refine sta 4 ?_;refine stk (fun h=>k8 rfl (And.left h) (And.right h)) ?_)
      | (refine sta 5 ?_;refine stk (fun h=>qE [] [0,0] [0,1,2] 8 h) ?_)
      | (refine sta 6 ?_;refine stk (fun h=>qd qgy h) ?_)
      | (refine sta 7 ?_;refine stk (fun h=>qt3 0 rfl h) ?_)
      | (refine sta 8 ?_;refine stk (fun h=>qs qfH h) ?_)
      | (refine sta 9 ?_;refine stk (fun h=>qs qoK h) ?_)
      | (refine sta 10 ?_;refine stk (fun h=>qs qhQ h) ?_)
      | (refine sta 11 ?_;refine stk (fun h=>qhM (i:=2) rfl h) ?_)
      | (refine sta 12 ?_;refine stk (fun h=>qfF (Int×Int) eS63 63 2 h) ?_)
      | (refine sta 13 ?_;refine stk (fun h=>qd qiC h) ?_)
      | (refine sta 14 ?_;exact stz (zW (none,0,([]:List (qD1×Nat))) 1))
      | (refine sta 15 ?_;refine stk (fun h=>qF [] h) ?_))
    | (refine stc 34 ?_;first
      | (refine sta 0 ?_;refine stk (fun h=>qs qdo h) ?_)
      | (refine sta 1 ?_;refine stk (fun h=>qs kI h) ?_)
      | (refine sta 2 ?_;refine stk (fun h=>qd ql2 h) ?_)
      | (refine sta 3 ?_;refine stk (fun h=>zm [0] [0,1,2,3] h) ?_)
      | (refine sta 4 ?_;refine qjj rfl rfl rfl (qyV UnF.u UnF.u rfl) ?_)
      | (refine sta 5 ?_;refine stk (fun h=>qs qqi h) ?_)
      | (refine sta 6 ?_;refine stk (fun h=>qs qiB h) ?_)
      | (refine sta 7 ?_;refine stk (fun h=>zO (i:=4) rfl rfl inferInstance rfl rfl (fun _=>rfl) rfl rfl h) ?_)
      | (refine sta 8 ?_;refine stk (fun h=>qd qoX h) ?_)
      | (refine sta 9 ?_;refine stk (fun h=>qd qoP h) ?_)
      | (refine sta 10 ?_;refine stk (fun h=>kQ 18 rfl (by kernel_rfl) (.cons 0 rfl .nil) h) ?_)
      | (refine sta 11 ?_;refine stk (fun h=>qd qjy h) ?_)
      | (refine sta 12 ?_;refine stk (fun h=>qs qiO h) ?_)
      | (refine sta 13 ?_;refine stk (fun h=>qd qif h) ?_)
      | (refine sta 14 ?_;refine stk (fun h=>qhM (i:=4) rfl h) ?_)
      | (refine sta 15 ?_;refine stk (fun h=>qhL rfl rfl rfl rfl rfl h) ?_))
    | (refine stc 35 ?_;first
      | (refine sta 0 ?_;refine stk (fun h=>qyJ rfl rfl rfl rfl h) ?_)
      | (refine sta 1 ?_;refine stk (fun h=>qd qme h) ?_)
      | (refine sta 2 ?_;refine stk (fun h=>qd qkJ h) ?_)
      | (refine sta 3 ?_;exact stz (zW (none,0) 0))
      | (refine sta 4 ?_;refine stk (fun h=>qlR 2 rfl h) ?_)
      | (refine sta 5 ?_;refine stk (fun h=>qE [] [0,0] [0] 13 h) ?_)
      | (refine sta 6 ?_;refine stk (fun h=>qd qqo h) ?_)
      | (refine sta 7 ?_;refine stk (fun h=>qs qij h) ?_)
      | (refine sta 8 ?_;refine stk (fun h=>qd qoT h) ?_)
      | (refine sta 9 ?_;refine stk (fun h=>zm [0,0] [0,1,2,3] h) ?_)
      | (refine sta 10 ?_;refine stk (fun h=>qE [] [0,0,0] [0] 15 h) ?_)
      | (refine sta 11 ?_;refine stk (fun h=>qs ql5 h) ?_)
      | (refine sta 12 ?_;refine stk (fun h=>qE [] [0] [0,1,2] 17 h) ?_)
      | (refine sta 13 ?_;refine stk (fun h=>zm [0] [0,1,2] h) ?_)
      | (refine sta 14 ?_;refine stk (fun h=>qd qnh h) ?_)
      | (refine sta 15 ?_;exact stz (zW ((none,0),none,0) 1)))
    | (refine stc 36 ?_;first
      | (refine sta 0 ?_;refine stk (fun h=>qs qia h) ?_)
      | (refine sta 1 ?_;refine stk (fun h=>qd qng h) ?_)
      | (refine sta 2 ?_;refine stk (fun h=>qd qqm h) ?_)
      | (refine sta 3 ?_;refine stk (fun h=>qd qoS h) ?_)
      | (refine sta 4 ?_;refine stk (fun h=>qd qnf h) ?_)
      | (refine sta 5 ?_;exact stz (zW ((none,0),(none,0),none,0) 1))
      | (refine sta 6 ?_;refine stk (fun h=>qgu (j:=0) (qA .u8) (by decide) rfl h) ?_)
      | (refine sta 7 ?_;refine stk (fun h=>qd qnw h) ?_)
      | (refine sta 8 ?_;refine stk (fun h=>qAv rfl rfl rfl rfl h) ?_)
      | (refine sta 9 ?_;refine stk (fun h=>qd qiI h) ?_)
      | (refine sta 10 ?_;refine stk (fun h=>qd qko h) ?_)
      | (refine sta 11 ?_;refine stk (fun h=>qyw rfl UnF.u rfl rfl h) ?_)
      | (refine sta 12 ?_;refine stk (fun h=>qp2 (i:=0) (qA .i64) rfl UnF.u inferInstance rfl rfl rfl rfl h) ?_)
      | (refine sta 13 ?_;refine stk (fun h=>qd qma h) ?_)
      | (refine sta 14 ?_;refine stk (fun h=>qd qf9 h) ?_)
      | (refine sta 15 ?_;exact stz (qj5 (.cons 1 rfl .nil))))
    | (refine stc 37 ?_;first
      | (refine sta 0 ?_;refine stk (fun h=>zY 5 _ rfl rfl rfl (zn rfl) rfl h) ?_)
      | (refine sta 1 ?_;refine stk (fun h=>zY 6 _ rfl rfl rfl (zn rfl) rfl h) ?_)
      | (refine sta 2 ?_;refine stk (fun h=>zY 7 _ rfl rfl rfl (zn rfl) rfl h) ?_)
      | (refine sta 3 ?_;refine stk (fun h=>zY 8 _ rfl rfl rfl (qZ rfl inferInstance) rfl h) ?_)
      | (refine sta 4 ?_;refine stk (fun h=>zY 11 _ rfl rfl rfl (zn rfl) rfl h) ?_)
      | (refine sta 5 ?_;refine stk (fun h=>zY 12 _ rfl rfl rfl (zn rfl) rfl h) ?_)
      | (refine sta 6 ?_;refine stk (fun h=>zY 18 _ rfl rfl rfl (zn rfl) rfl h) ?_)
      | (refine sta 7 ?_;refine stk (fun h=>zm [0,0,0,0,0] [0,1] h) ?_)
      | (refine sta 8 ?_;refine stk (fun h=>qd qj8 h) ?_)
      | (refine sta 9 ?_;refine stk (fun h=>qs qnp h) ?_)
      | (refine sta 10 ?_;refine stk (fun h=>qd qth h) ?_)
      | (refine sta 11 ?_;refine stk (fun h=>qd qoN h) ?_)
      | (refine sta 12 ?_;refine stk (fun h=>qd qmb h) ?_)
      | (refine sta 13 ?_;refine stk (fun h=>qs qiG h) ?_)
      | (refine sta 14 ?_;refine stk (fun h=>qd qny h) ?_)
      | (refine sta 15 ?_;refine stk (fun h=>qd qqt h) ?_))
    | (refine stc 38 ?_;first
      | (refine sta 0 ?_;refine stk (fun h=>vL (j:=2) (qA .i64) (by decide) rfl UnF.u inferInstance rfl rfl rfl rfl h) ?_)
      | (refine sta 1 ?_;refine stk (fun h=>qix (j:=2) qn (by decide) rfl UnF.u inferInstance rfl rfl rfl rfl h) ?_)
      | (refine sta 2 ?_;refine stk (fun h=>qs qh7 h) ?_)
      | (refine sta 3 ?_;refine stk (fun h=>qE [] [0,0,0] [0,1,2,3] 10 h) ?_)
      | (refine sta 4 ?_;refine stk (fun h=>zm [1,0,0] [0,1,2,3] h) ?_)
      | (refine sta 5 ?_;refine stk (fun h=>qE [] [0,0,0] [0,1,2,3] 12 h) ?_)
      | (refine sta 6 ?_;refine stk (fun h=>kQ 13 rfl (by kernel_rfl) (.cons 1 rfl (.cons 1 rfl .nil)) h) ?_)
      | (refine sta 7 ?_;refine stk (fun h=>qE [] [0,0,0,0,0] [0] 5 h) ?_)
      | (refine sta 8 ?_;refine stk (fun h=>qd qqk h) ?_)
      | (refine sta 9 ?_;refine stk (fun h=>qE [] [1,1,1,1] [0,1,2] 8 h) ?_)
      | (refine sta 10 ?_;refine stk (fun h=>zm [1,1,1,1] [0,1,2] h) ?_)
      | (refine sta 11 ?_;refine stk (fun h=>qs qh6 h) ?_)
      | (refine sta 12 ?_;exact stz (qgw (none,0,([]:List (qD1×Nat))) 0))
      | (refine sta 13 ?_;refine stk (fun h=>qd qoL h) ?_))
    | apply stm 45 [1,4]
    | apply stm 46 [0,2]
    | apply stm 47 [5,0,2]
    | apply stm 48 [1,4,3]
    | apply stm 49 [5,0,2,8]
    | apply stm 50 [0,24,1]
    | apply stm 51 [24,11,10]
    | apply stm 52 [24,6,13]
    | apply stm 53 [24,13,21]
    | apply stm 54 [15,16]
    | apply stm 55 [24,10,1,4]
    | apply stm 56 [21,24,14]
    | apply stm 57 [12,2]
    | apply stm 58 [6,6,6,7]
    | apply stm 59 [5,0,2,8,13]
    | apply stm 60 [5,0,2,1,4,3]
    | apply stm 61 [24,9,0,24,1]
    | apply stm 62 [24,8,0,24,1]
    | apply stm 63 [7,7]
    | apply stm 64 [25,0,1,4]
    | apply stm 65 [24,3,2]
    | apply stm 66 [6,11,15,16]
    | apply stm 67 [10,20]
    | apply stm 68 [7,7,7,7]
    | apply stm 69 [6,8,9,10]
    | apply stm 70 [6,0,6,1]
    | apply stm 71 [5,0,2,8,24,5]
    | apply stm 72 [24,13,21,21,24,14]
    | apply stm 73 [0,25,2]
    | apply stm 74 [1,4,24,12]
    | apply stm 75 [0,2,14]
    | apply stm 76 [6,11,6,12]
    | apply stm 77 [24,7,3]
    | apply stm 78 [5,0,2,8,13,24,5]
    | apply stm 79 [24,10,1,4,24,0]
    | apply stm 80 [17,0]
    | apply stm 81 [22,22]
    | apply stm 82 [5,0,2,1]
    | apply stm 83 [5,0,2,1,4]
    | apply stm 84 [12,2,1]
    | apply stm 85 [12,2,1,14]
    | apply stm 86 [24,7,3,0,2,14]
    | apply stm 87 [25,0,1,4,24,0]
    | apply stm 88 [23,3]
    | apply stm 89 [0,25,14]
    | apply stm 90 [5,0,2,8,25,15]
    | apply stm 91 [3,3]
    | apply stm 92 [39,1,4,3]
    | apply stm 93 [6,6,6,7,6,8,9,10]
    | apply stm 94 [10,25,12]
    | apply stm 95 [23,3,0]
    | apply stm 96 [6,0,6,1,6,2]
    | apply stm 97 [4,23,3,0]
    | apply stm 98 [24,3,2,4,23,3,0]
    | apply stm 99 [1,4,24,0]
    | apply stm 100 [27,10,27,11]
    | apply stm 101 [26,11,27,12]
    | apply stm 102 [9,9,24,2]
    | apply stm 103 [10,24,12]
    | apply stm 104 [5,0,2,8,13,25,8]
    | apply stm 105 [25,1,24,9,0,24,1]
    | apply stm 106 [9,10,17,0]
    | apply stm 107 [1,4,25,11]
    | apply stm 108 [9,4,26,13]
    | apply stm 109 [9,10,24,0]
    | apply stm 110 [24,6,13,24,5]
    | apply stm 111 [24,6,13,13]
    | apply stm 112 [24,9,0]
    | apply stm 113 [24,8,0]
    | apply stm 114 [18,0,24,15,1]
    | apply stm 115 [25,13,28,3]
    | apply stm 116 [6,8,9,9,24,2]
    | apply stm 117 [0,2,1,4,3]
    | apply stm 118 [10,26,1]
    | apply stm 119 [24,11,10,20]
    | apply stm 120 [26,2,26,2]
    | apply stm 121 [0,24,3]
    | apply stm 122 [24,13,21,21,24,14,26,14]
    | apply stm 123 [6,9,6,10]
    | apply stm 124 [6,13,6,14]
    | apply stm 125 [12,2,1,4]
    | apply stm 126 [26,8,1,4,24,0]
    | apply stm 127 [24,4,3]
    | apply stm 128 [0,26,0])):Stv p B A:=⟨fun h=>(t h).go⟩
theorem au (p:List Nat){A B:Prop}(h:B)(t:Stv p B A:=by exact au0 _):A:=t.go h
theorem av (p:List Nat){A B C:Prop}(h:B)(k:C)(t:Stv p (B∧C) A:=by exact au0 _):A:=t.go ⟨h,k⟩
theorem aw (p:List Nat){A B C B' C':Prop}(h:B)(k:C)(t:Stv p ((B'→B)∧(C'→C)) A:=by exact au0 _):A:=t.go ⟨fun _=>h,fun _=>k⟩
theorem az (p:List Nat){A:Prop}(t:Stv p True A:=by exact au0 _):A:=t.go trivial
instance mx:Mx qD9:=⟨mixed⟩
theorem ql3 (hm:kB F p1=some i1) :
    qEa 20 [.agg #[qD3 l1 p1 t1]] [SlN eN56 iN56 1 (qD3 l1 p1 t1) p1 n1] (qD2 i1):=by
 refine pureA func20 ntmps20 hm fun _=>?_
 refine au [87] ?_
 intro g4
 refine aw [5,0,2,1,4,10,20,24,7,5,0,2,1,1,4,3,25,1,0,2,11] ?_ ?_
 exact az [45,78]
 refine au [125,47] ?_
 refine qL (fun ((x0,_):Int×Unit)=>([(4,qD2 x0)],[],[],[],qcW F x0)) ?_ ?_
 refine au [45,67,86] ?_
 refine qm [3,16,17] [] [] [0] (fun (((x2,x3),_):(Int×Int)×Unit)=>([(4,qD2 x2),(18,qD2 x3)],[],[],[])) ((0:Int),(0:Int)) () ?_
 intro k0
 rintro ⟨⟨x2,x3⟩,_⟩
 refine aw [39,1,4,24,4,0,2,1,11] ?_ ?_
 refine au [57] ?_
 refine qg [3,16,17,18] [] [] [0] (fun ((x4,_):Int×Unit)=>([(4,qD2 x4)],[],[],[],qcX F (vd F p1 k0) x3 x4)) ?_ ?_
 refine au [14,45,27,6] ?_
 intro x5 e0 g0 b0 o0
 refine au [25,3,83,47] ?_
 refine qg [3,4,6,16,17,18] [] [] [1,2] (fun ((_,_):Unit×Unit)=>([],[],[],[],qbi F (vd F p1 k0) x2 x3 x5)) ?_ ?_
 refine au [48,86] ?_
 refine qm [3,4,6,16,17,18,22,23] [] [] [1,2] (fun (((x6,x7),_):(Int×Int)×Unit)=>([(7,qD2 x6),(24,qD2 x7)],[],[],[])) ((-1:Int),(0:Int)) () ?_
 intro k1
 rintro ⟨⟨x6,x7⟩,_⟩
 refine aw [39,1,4,24,4,0,2,1,11] ?_ ?_
 refine au [85,45,26,4] ?_
 intro x8 e1 b1 o1
 refine au [25,3,82,14,48,127] ?_
 refine zp 4 31 35 [3,4,6,7,16,17,18,22,23,24,9] (decide ((p1.length:Int)≤x8)) ?_ ?_ ?_
 exact az [63,7,62]
 exact az [91,26,6,61]
 refine aw [5,0,2,11] ?_ ?_
 exact az [45,49,52,111,52,111,110]
 refine aw [1,4,3,3,28,10,5,0,2,11] ?_ ?_
 exact az [45,49,52,111,52,111,110]
 refine au [12,65,4,3,5,0,98] ?_
 exact qj ((x8,iadd .i64 x7 1),())
 exact az [122]
 rintro ⟨_,_⟩
 refine au [39,4,91,24,7,23,5,121] ?_
 exact qa (iadd .i64 x2 (x5.length:Int),())
 rintro ⟨x4,_⟩
 refine au [39,97] ?_
 exact qj ((x4,iadd .i64 x3 1),())
 refine au [72] ?_
 exact qa (x2,())
 rintro ⟨x0,_⟩
 refine aw [39,1,1,4,3,25,1,0,2,11] ?_ ?_
 exact az [45,78]
 exact az [125,71]
theorem qnt (hm:vr F i1 i2 i3=some i4) :
    qEa 21 [.agg #[qD2 i1,qD2 i2,qD2 i3]] [] (qD2 i4):=by
 refine pureA func21 ntmps21 hm fun _=>?_
 refine au [87] ?_
 intro g4
 refine au [82,45,67,127] ?_
 refine zp 4 6 10 [1] (decide (7<i1)) ?_ ?_ ?_
 exact az [63,7,62]
 exact az [67,105]
 refine au [3] ?_
 refine zp 4 11 15 [1] (decide (i2<0)) ?_ ?_ ?_
 exact az [63,7,62]
 exact az [67,24,4,61]
 refine au [3] ?_
 refine zp 4 16 20 [1] ((i2:Int) == 1) ?_ ?_ ?_
 exact az [63,7,62]
 exact az [67,25,6,61]
 refine au [3] ?_
 refine zp 4 21 25 [1] (decide (300<i2)) ?_ ?_ ?_
 exact az [63,7,62]
 exact az [67,105]
 refine au [3] ?_
 refine zp 4 26 30 [1] (decide (i3<1)) ?_ ?_ ?_
 exact az [63,7,62]
 exact az [67,24,4,61]
 refine au [3] ?_
 refine zp 4 31 35 [] (decide (16<i3)) ?_ ?_ ?_
 exact az [63,7,62]
 exact az [67,105]
 refine aw [0,2,11] ?_ ?_
 exact az [45,78]
 exact az [125,71]
theorem qnc (hm:yP F p1 i1 i2 i3=some i4) :
    qEa 13 [.agg #[qD3 l1 p1 t1,qD2 i1,qD2 i2,qD2 i3]] [SlN eN56 iN56 1 (qD3 l1 p1 t1) p1 n1] (qD2 i4):=by
 refine pureA func13 ntmps13 hm fun _=>?_
 refine au [87] ?_
 intro g7
 refine au [82,45,103,28,7] ?_
 intro x10 e10 _
 refine aw [5,0,2,1,4,3,25,4,0,2,11] ?_ ?_
 exact az [48,78]
 refine au [125,103,30,1] ?_
 intro x11 e11 _
 exact az [71]
theorem qgy (hm:kE F m1=some m2) :
    Pure qD9 46 [qD3 l1 m1 t1] [qD5 l1 m1 t1] (qD1×Nat) (fun g=>qD3 g.1 m2 g.2) (fun g=>[qD6 g.1 m2 g.2]) (fun _=>[]):=by
 refine pureA func46 ntmps46 hm fun _=>?_
 refine av [64,82,48,33,3,46,33,4] ?_ ?_
 intro h11
 refine qp0 0 (qA .i64) (by decide) rfl h11 (fun h12=>?_)
 subst h12
 refine qaJ (m':=some ([]:qD0)) rfl ?_
 refine au [45,104] ?_
 exact qx (none,0)
 intro _
 refine au [125] ?_
 refine zw (k:=.i64) [] ?_
 intro a6 c7
 refine au [3,31,10] ?_
 intro x8 e8 a9 c10
 refine au [49] ?_
 exact qx (a9,c10)
theorem qqk {r:(List (qD0)×Int×Int×Int)}(hm:qe3 F p1 i1 i2 i3=some r) :
    Pure qD9 23 [.agg #[qD3 l1 p1 t1,qD2 i1,qD2 i2,qD2 i3]] [SlN eN56 iN56 1 (qD3 l1 p1 t1) p1 n1] (qD1×Nat×List (qD1×Nat)) (fun g=>.agg #[qD3 g.1 r.1 g.2.1,qD2 r.2.1,qD2 r.2.2.1,qD2 r.2.2.2]) (fun g=>[RoN eN56 rN56 56 1 (qD3 g.1 r.1 g.2.1) r.1 g.2.2 []]) (fun _=>[]):=by
 refine pureA func23 ntmps23 hm fun _=>?_
 refine au [87] ?_
 intro g7
 refine au [24,2] ?_
 intro g8
 refine au [46] ?_
 refine qg [1,2] [0,1] [] [0] (fun ((x20,g17,a18,c19):List (qD0)×Nat×qD1×Nat×List (qD1×Nat))=>([(3,qD4 g17)],[⟨g17,28,[qD3 a18 x20 c19.1,qD2 i1,qD2 i2,qD2 i3]⟩],[RoN eN56 rN56 56 1 (qD3 a18 x20 c19.1) x20 c19.2 []],[],qfO F p1 i1 i2 i3 x20)) ?_ ?_
 refine qE [] [0,0] [0] 11 ?_
 refine au [18,0,18,1,26,10,2,28,8,3,18,6] ?_
 refine qr 7 (.agg #[qD2 i1,qD2 i2,qD2 i3]) rfl rfl rfl (qq (i:=1) rfl tf26 rfl rfl (by simp) rfl) (zJ 4 9 rfl rfl (by kernel_rfl) rfl rfl ?_ ?_)
 refine au [30,2] ?_
 intro x0 e0 a0 c0
 refine au [0,28,14] ?_
 refine qb 5 (.agg #[qD3 a0 x0 c0]) rfl rfl rfl (qdl (cells:=[qD3 a0 x0 c0]) st24 rfl (by kernel_rfl)) (qb 8 (.agg #[qD3 a0 x0 c0,qD2 i1,qD2 i2,qD2 i3]) rfl rfl rfl (qdl (cells:=[qD3 a0 x0 c0,qD2 i1,qD2 i2,qD2 i3]) st28 rfl (by kernel_rfl)) ?_)
 refine au [102] ?_
 intro g0
 refine au [128,106,26,0,54] ?_
 exact qa (x0,g0,a0,c0,(qBj x0.length ((none,0):qD1×Nat)))
 refine au [24,2] ?_
 intro g1
 refine au [128,9,4,30,2] ?_
 intro x2 e1 a1 c1
 refine au [128] ?_
 refine qb 5 (.agg #[qD3 a1 x2 c1]) rfl rfl rfl (qdl (cells:=[qD3 a1 x2 c1]) st24 rfl (by kernel_rfl)) (qb 8 (.agg #[qD3 a1 x2 c1,qD2 i1,qD2 i2,qD2 i3]) rfl rfl rfl (qdl (cells:=[qD3 a1 x2 c1,qD2 i1,qD2 i2,qD2 i3]) st28 rfl (by kernel_rfl)) ?_)
 refine au [106,26,0,54] ?_
 exact qa (x2,g1,a1,c1,(qBj x2.length ((none,0):qD1×Nat)))
 rintro ⟨x20,g17,a18,c19⟩
 try dsimp only
 refine qg [2,3] [0] [] [] (fun ((x3,g2):List (qD0)×List (qD1×Nat))=>([],[⟨g17,28,[qD3 a18 x3 c19.1,qD2 i1,qD2 i2,qD2 i3]⟩],[RoN eN56 rN56 56 1 (qD3 a18 x3 c19.1) x3 g2 []],[],qhV F i1 i2 i3 x3)) ?_ ?_
 refine au [45,10,94,86] ?_
 refine qm [2,3,17,18] [0] [] [0] (fun (((x7,x8),g3):(Int×List (qD0))×List (qD1×Nat))=>([(19,qD2 x7)],[⟨g17,28,[qD3 a18 x8 c19.1,qD2 i1,qD2 i2,qD2 i3]⟩],[RoN eN56 rN56 56 1 (qD3 a18 x8 c19.1) x8 g3 []],[])) ((0:Int),x20) c19.2 ?_
 intro k0
 rintro ⟨⟨x7,x8⟩,g3⟩
 refine aw [39,1,4,24,4,0,2,1,11] ?_ ?_
 refine au [85,48,27,6] ?_
 intro x9 e2 g4 b0 o0
 refine au [25,3,5,47,30,3] ?_
 intro x10 e3 g5 h0 g6 h1
 replace h1:a18=some ⟨g6,0,none⟩:=h1
 have h2:=zF (k:=x8.length) (c:=c19.1) h1
 refine qeS (i:=0) rfl h0 (List.not_mem_nil) ?_
 refine au [33,5,18,0,18,1,26,10,2,6,3,6,4,9,5,33,6] ?_
 rintro x11 e4 ⟨a3,c2⟩
 refine au [0] ?_
 refine zm [0,0] [0,1,2] ?_
 refine jA 6 h1 e3 ?_
 refine au [9,7] ?_
 refine jL (j:=2) (kh:=0) (y':=x11) (q':=(a3,c2)) qn rfl rfl rfl tf56 rfl (zF h1) rfl (qw e3).2.1 rfl (.cons 0 rfl .nil) (fun x12 e5 h3 g9=>?_)
 have h4:x12.length=x8.length:=by rw[← e5,qBA]
 refine q9 26 h3 ?_
 refine qS (i:=1) (cs':=[qD3 a18 x12 c19.1,qD2 i1,qD2 i2,qD2 i3]) rfl (by simp only[qD3,h3] <;> rfl) ?_
 refine au [0] ?_
 refine qc (.cons 0 rfl (.cons 0 (by simp only[qD3,h4] <;> rfl) .nil)) (qh 0 rfl (qh 1 rfl (qh 2 rfl qf))) ?_
 refine au [54,98] ?_
 exact qj ((iadd .i64 x7 1,x12),g9)
 refine au [72] ?_
 exact qa (x8,g3)
 rintro ⟨x3,g2⟩
 refine au [39,107,17,46,8] ?_
 exact qdE (a18,c19.1,g2) 0
theorem qrL {r:(Int×Int)}(hm:qiS F i1 i2=some r) :
    qEa 203 [.int .u32 i1,.int .u32 i2] [] (.tuple #[.int .u32 r.1,.int .u32 r.2]):=by
 refine pureA func203 ntmps203 hm fun _=>?_
 refine au [55,5,60,25,10,3,25,10,27,15,5,27,0] ?_
 intro x3 e3
 refine jQ 6 e3 ?_
 exact az [117,27,7,25,10,3,25,10,5,71]
theorem qiN {r:(Int×Int)}(hm:qfx F i1 i2=some r) :
    qEa 204 [.int .u64 i1,.int .u64 i2] [] (.tuple #[.int .u64 r.1,.int .u64 r.2]):=by
 refine pureA func204 ntmps204 hm fun _=>?_
 refine au [55,5,60,28,15,60,27,7,60,28,15,60,27,7,60,3,27,15,5,27,0] ?_
 intro x3 e3
 refine jQ 10 e3 ?_
 refine au [117,3,27,15,3,27,7,23,5,27,0] ?_
 intro x4 e4
 refine jQ 11 e4 ?_
 refine au [117,28,15,60,27,7,60,91,27,15,23,5,27,0] ?_
 intro x5 e5
 refine jQ 12 e5 ?_
 refine au [117,3,27,15,3,88,27,7,23,5,27,0] ?_
 intro x6 e6
 refine jQ 4 e6 ?_
 exact az [117,3,27,15,71]
theorem qkl {r:(Int×Int)}(hm:qcg F i1 i2=some r) :
    qEa 175 [.int .u64 i1,.int .u64 i2] [] (.tuple #[.int .u64 r.1,.int .u64 r.2]):=by
 refine pureA func175 ntmps175 hm fun _=>?_
 refine au [55,5,82] ?_
 refine k8 (b:=false) rfl (fun h=>by cases h) (fun _=>?_)
 refine au [57,48,3] ?_
 refine qd qiN ?_
 intro x3 e3 _
 exact az [3,81,5,60,3,5,71]
theorem qgb (hm:k6 F m1 i1=some m2) :
    Pure qD9 131 [qD3 l1 m1 t1,qD2 i1] [qD5 l1 m1 t1] (qD1×Nat) (fun g=>qD3 g.1 m2 g.2) (fun g=>[qD6 g.1 m2 g.2]) (fun _=>[]):=by
 refine pureA func131 ntmps131 hm fun _=>?_
 refine aw [24,10,1,4,5,0,2,1,1,4,3,24,4,0,2,11] ?_ ?_
 exact az [30,4]
 refine au [57,48,24,7,25,10,3,25,10] ?_
 refine qd qkl ?_
 intro x6 e6 _
 refine au [3,81,5,82,48,25,1,3] ?_
 refine zp 3 23 26 [0,6] (decide (9223372036854775807<x6.2)) ?_ ?_ ?_
 exact az [63,62]
 exact az [3,105]
 refine aw [0,2,11] ?_ ?_
 exact az [30,4]
 refine au [57,48,25,10,26,3] ?_
 intro x10 e10 a11 c12
 refine au [60,3] ?_
 refine qt9 (j:=0) (i:=0) (qA .i64) rfl UnF.u inferInstance rfl rfl rfl rfl rfl ?_
 intro x13 e13 h14
 have h15:x13.length=x10.length:=by rw[← e13];exact qec (Nat.zero_le _)
 refine q9 7 h14 ?_
 refine q9 30 h14 ?_
 refine q9 31 h14 ?_
 refine au [47] ?_
 refine qL (fun ((x64,_):qD0×Unit)=>([(7,qD3 a11 x64 c12)],[],[qD6 a11 x64 c12],[],vF F x64)) ?_ ?_
 refine au [14] ?_
 refine qt4 (fun (((x80,x81),_):(qD0×Int)×Unit)=>([(7,qD3 a11 x80 c12),(8,qD2 x81)],[],[qD6 a11 x80 c12],[])) (fun k (s:(qD0×Int)×Unit)=>ky F k s.1) ((x13,((min m1.length x10.length:Nat):Int)),()) F ?_
 intro k97
 rintro ⟨⟨x80,x81⟩,_⟩
 try dsimp only
 refine qaJ (m':=ym F (ky F k97) x80 x81) rfl ?_
 refine aw [1,1,4,3,3,24,7,24,4,0,2,11] ?_ ?_
 refine au [57,14,33,7] ?_
 intro x99 e99 a0 c0 h0 h1
 refine au [33,7] ?_
 intro x0 e0 a1 c1 h2 h3
 refine qE [] [] [] 10 ?_
 refine au [96] ?_
 refine qb 3 (qD3 a0 x99 c0) rfl rfl rfl (qcw underlying56 tf3 rfl rfl rfl e99 h1 h0) ?_
 refine au [6,4,6,5] ?_
 refine qb 6 (qD3 a1 x0 c1) rfl rfl rfl (qcw underlying56 tf3 rfl rfl rfl e0 h3 h2) ?_
 refine au [9,7] ?_
 refine qua (j:=0) (qA .i64) rfl underlying56 tf3 e99 h0 e0 h2 rfl rfl rfl rfl (fun x2 e1 h4=>?_)
 have h5:x2.length=x80.length:=by rw[← e1];exact qec (by have:=qdi e99;omega)
 refine q9 7 h4 ?_
 refine q9 35 h4 ?_
 refine q9 39 h4 ?_
 refine q9 42 h4 ?_
 refine au [0] ?_
 refine zm [] [] ?_
 refine au [6,8,6,9,54,24,3] ?_
 exact qj ((x2,iadd .i64 x81 ((min x0.length x99.length:Nat):Int)),())
 refine au [72] ?_
 exact qa (x80,())
 rintro ⟨x64,_⟩
 refine au [92,49] ?_
 exact qx (a11,c12)
theorem qgz (hm:kF F m1 i1=some i2) :
    qEa 85 [qD3 l1 m1 t1,qD2 i1] [qD5 l1 m1 t1] (qD2 i2):=by
 refine pureA func85 ntmps85 hm fun _=>?_
 refine au [55,47] ?_
 refine qL (fun ((_,_):Unit×Unit)=>([],[],[],[],qbW F)) ?_ ?_
 refine au [48,86] ?_
 refine qm [0,1,7] [] [] [0] (fun ((x47,_):Int×Unit)=>([(8,qD2 x47)],[],[],[])) (0:Int) () ?_
 intro k58
 rintro ⟨x47,_⟩
 refine aw [39,1,4,24,4,0,2,1,11] ?_ ?_
 refine au [85,48,60,91,26,4] ?_
 intro x64 e64 b65 o66
 refine aw [25,3,25,6,0,2,11] ?_ ?_
 exact az [48,49,111,110]
 refine au [12,98] ?_
 exact qj (iadd .i64 x47 1,())
 exact az [122]
 rintro ⟨_,_⟩
 exact az [39,45,71]
theorem qg7 (F:Nat)(x1:qD0)(a2:qD1)(c3:Nat)(r:Int)(hm:jv F x1=some r) :
    qEa 205 [qD3 a2 x1 c3] [qD5 a2 x1 c3] (qD2 r):=by
 refine pureA func205 ntmps205 hm fun _=>?_
 refine aw [25,0,1,4,5,0,2,1,1,4,3,24,7,24,4,0,2,11] ?_ ?_
 exact az [30,4]
 refine au [57,48,26,4] ?_
 intro x5 e5 b6 o7
 refine au [25,3,47] ?_
 refine qL (fun ((x35,_):Int×Unit)=>([(3,qD2 x35)],[],[],[],qcy F x35)) ?_ ?_
 refine au [45,47,14] ?_
 refine qm [0] [] [] [1] (fun (((x44,x45),_):(Int×Int)×Unit)=>([(3,qD2 x44),(4,qD2 x45)],[],[],[])) (x5,(1:Int)) () ?_
 intro k54
 rintro ⟨⟨x44,x45⟩,_⟩
 refine aw [39,1,1,4,3,3,24,7,24,4,0,2,11] ?_ ?_
 refine au [85,4,91,3,26,4] ?_
 intro x59 e59 b60 o61
 refine au [25,3,29,0,5,0,65,4,3,23,5,0] ?_
 exact qj ((imin x44 x59,iadd .i64 x45 1),())
 refine au [72] ?_
 exact qa (x44,())
 rintro ⟨x35,_⟩
 exact az [92,71]
theorem qg3 (F g1:Nat)(x2:List (qD0))(a3:qD1)(c4:(Nat×List (qD1×Nat)))(x5:qD0)(a6:qD1)(c7:Nat)(x8:qD0)(a9:qD1)(c10:Nat)(x11:qD0)(a12:qD1)(c13:Nat)(x14:qD0)(a15:qD1)(c16:Nat)(x17 x18:Int)(r:(qD0×qD0×qD0×qD0×Int))(hm:vS F x2 x5 x8 x11 x14 x17 x18=some r) :
    PureM qD9 176 [qD4 g1,qD2 x18] [⟨g1,183,[qD3 a3 x2 c4.1,qD3 a6 x5 c7,qD3 a9 x8 c10,qD3 a12 x11 c13,qD3 a15 x14 c16,qD2 x17]⟩] [qD6 a6 x5 c7,qD6 a9 x8 c10,qD6 a12 x11 c13,qD6 a15 x14 c16] [SlN eN56 iN56 1 (qD3 a3 x2 c4.1) x2 c4.2] ((qD1×Nat)×(qD1×Nat)×(qD1×Nat)×qD1×Nat) (fun _=>.tuple #[]) (fun g=>[⟨g1,183,[qD3 a3 x2 c4.1,qD3 g.1.1 r.1 g.1.2,qD3 g.2.1.1 r.2.1 g.2.1.2,qD3 g.2.2.1.1 r.2.2.1 g.2.2.1.2,qD3 g.2.2.2.1 r.2.2.2.1 g.2.2.2.2,qD2 r.2.2.2.2]⟩]) (fun g=>[qD6 g.1.1 r.1 g.1.2,qD6 g.2.1.1 r.2.1 g.2.1.2,qD6 g.2.2.1.1 r.2.2.1 g.2.2.1.2,qD6 g.2.2.2.1 r.2.2.2.1 g.2.2.2.2]):=by
 refine pureMA func176 ntmps176 hm fun _=>?_
 refine au [24,10,48,119,3,31,11] ?_
 intro x19 e19 _
 refine au [60,119,3] ?_
 refine qwL (j:=2) rfl UnF.u inferInstance rfl rfl rfl rfl ?_
 intro h20 g21 h22
 refine au [60] ?_
 refine qp (d:=21) (v:=.slice (some ⟨g21,x19.toNat*1,none⟩) (x11.drop x19.toNat).length (c13-x19.toNat)) rfl (by rw[List.length_drop]) (yY EnC.e rfl rfl rfl (fun x23 e23=>qg7 F (x11.drop x19.toNat) (some ⟨g21,x19.toNat*1,none⟩) (c13-x19.toNat) x23 e23) (.consG 2 rfl (qAC (qA .i64) h22 (by have:=h20;omega)) .nil) (fun x23 e23=>?_))
 intro _
 refine au [47] ?_
 refine qg [0,4] [] [0,1,2] [0] (fun ((x75,_):qD0×Unit)=>([],[⟨g1,183,[qD3 a3 x2 c4.1,qD3 a6 x5 c7,qD3 a9 x8 c10,qD3 a12 x11 c13,qD3 a15 x75 c16,qD2 x17]⟩],[qD6 a15 x75 c16],[],jG F x5 x8 x11 x17 x19 x75)) ?_ ?_
 refine au [48,86] ?_
 refine qm [0,4,6,23,24] [] [0,0,0] [0] (fun (((x93,x94),_):(Int×qD0)×Unit)=>([(25,qD2 x93)],[⟨g1,183,[qD3 a3 x2 c4.1,qD3 a6 x5 c7,qD3 a9 x8 c10,qD3 a12 x11 c13,qD3 a15 x94 c16,qD2 x17]⟩],[qD6 a15 x94 c16],[])) ((0:Int),x14) () ?_
 intro k0
 rintro ⟨⟨x93,x94⟩,_⟩
 refine aw [39,1,4,24,4,0,2,1,11] ?_ ?_
 refine au [85,45] ?_
 refine qrq (xs:=x11) rfl rfl underlying56 tf3 rfl rfl rfl (fun x0 e0=>qug (j:=2) (qA .i64) rfl rfl tf3 rfl h22 e0 (fun _=>rfl) rfl rfl ?_)
 refine au [47,4,3,119,91] ?_
 refine qcv (j:=3) rfl UnF.u inferInstance rfl rfl rfl rfl ?_
 intro x1 e1 g0 h0
 refine zZ (j:=3) (y':=x23) (qA .i64) rfl rfl rfl tf3 rfl h0 (qw e1).2.1 rfl (fun x3 e2 h1=>?_)
 have h2:x3.length=x94.length:=by rw[← e2,qBA]
 refine qp (d:=32) (v:=qD3 a15 x3 c16) rfl h1 (qS (i:=0) (cs':=[qD3 a3 x2 c4.1,qD3 a6 x5 c7,qD3 a9 x8 c10,qD3 a12 x11 c13,qD3 a15 x3 c16,qD2 x17]) rfl (by simp only[qD3,h1] <;> rfl) ?_)
 refine au [0,98] ?_
 exact qj ((iadd .i64 x93 1,x3),())
 refine au [72] ?_
 exact qa (x94,())
 rintro ⟨x75,_⟩
 refine au [39,4,91,119,3] ?_
 refine qp2 (i:=2) (qA .i64) rfl UnF.u inferInstance rfl rfl rfl rfl ?_
 intro x76 e76
 refine au [51,80] ?_
 exact qH ((a6,c7),(a9,c10),(a12,c13),a15,c16)
theorem qg4:∀ (F g1:Nat)(x2:List (qD0))(a3:qD1)(c4:(Nat×List (qD1×Nat)))(x5:qD0)(a6:qD1)(c7:Nat)(x8:qD0)(a9:qD1)(c10:Nat)(x11:qD0)(a12:qD1)(c13:Nat)(x14:qD0)(a15:qD1)(c16:Nat)(x17 x18:Int)(r:(qD0×qD0×qD0×qD0×Int)),qT F x2 x5 x8 x11 x14 x17 x18=some r→PureM qD9 132 [qD4 g1,qD2 x18] [⟨g1,183,[qD3 a3 x2 c4.1,qD3 a6 x5 c7,qD3 a9 x8 c10,qD3 a12 x11 c13,qD3 a15 x14 c16,qD2 x17]⟩] [qD6 a6 x5 c7,qD6 a9 x8 c10,qD6 a12 x11 c13,qD6 a15 x14 c16] [SlN eN56 iN56 1 (qD3 a3 x2 c4.1) x2 c4.2] ((qD1×Nat)×(qD1×Nat)×(qD1×Nat)×qD1×Nat) (fun _=>.tuple #[]) (fun g=>[⟨g1,183,[qD3 a3 x2 c4.1,qD3 g.1.1 r.1 g.1.2,qD3 g.2.1.1 r.2.1 g.2.1.2,qD3 g.2.2.1.1 r.2.2.1 g.2.2.1.2,qD3 g.2.2.2.1 r.2.2.2.1 g.2.2.2.2,qD2 r.2.2.2.2]⟩]) (fun g=>[qD6 g.1.1 r.1 g.1.2,qD6 g.2.1.1 r.2.1 g.2.1.2,qD6 g.2.2.1.1 r.2.2.1 g.2.2.1.2,qD6 g.2.2.2.1 r.2.2.2.1 g.2.2.2.2]):=by
  intro F
  induction F with
  | zero=>intro g1 x2 a3 c4 x5 a6 c7 x8 a9 c10 x11 a12 c13 x14 a15 c16 x17 x18 r hm;exact absurd hm (by simp[qT])
  | succ F ih =>
    intro g1 x2 a3 c4 x5 a6 c7 x8 a9 c10 x11 a12 c13 x14 a15 c16 x17 x18 r hm
    refine qjc func132 rfl ntmps132 rfl hm (fun w=>?_)
    refine qog (l':=[(0,qD4 g1),(1,qD2 x18)]) rfl ?_
    refine kj ?_
    refine qP ?_
    refine qU rfl rfl rfl ?_
    refine zT rfl rfl rfl ?_
    refine qR rfl rfl ff183_5 rfl ?_
    refine zO (i:=0) rfl rfl tf3 rfl rfl (fun _=>rfl) rfl rfl ?_
    refine qkB rfl rfl rfl rfl ?_
    refine zT rfl rfl rfl ?_
    refine qR rfl rfl ff183_5 rfl ?_
    refine kA (i:=0) rfl rfl rfl tf3 rfl rfl rfl rfl rfl ?_
    refine zC ?_
    refine zx ?_
    refine kj ?_
    refine qbJ (j:=0) rfl (fun x33 e33 g34 h35=>?_)
    replace h35:a6=some ⟨g34,0,none⟩:=h35
    have h36:=zF (k:=x5.length) (c:=c7) h35
    refine qbJ (j:=1) rfl (fun x37 e37 g38 h39=>?_)
    replace h39:a9=some ⟨g38,0,none⟩:=h39
    have h40:=zF (k:=x8.length) (c:=c10) h39
    refine kg mixed [] _ _ (.cons 0 rfl .nil) (qh 0 rfl qf) 22 rfl ?_
    refine qb 0 (qD4 g1) rfl rfl rfl (zn rfl) ?_
    refine qb 1 (qD4 g1) rfl rfl rfl (zn rfl) ?_
    refine qb 2 (.pointer (some ⟨g1,1,none⟩)) rfl rfl rfl (qZ rfl ff183_1) ?_
    refine qr 3 (qD3 a6 x5 c7) rfl rfl rfl (qq (i:=0) rfl tf56 rfl rfl (fun _=>rfl) rfl) ?_
    refine qb 4 (qD2 x18) rfl rfl rfl (zn rfl) ?_
    refine qb 5 (qD4 g1) rfl rfl rfl (zn rfl) ?_
    refine qb 6 (qD4 g1) rfl rfl rfl (zn rfl) ?_
    refine qb 7 (.pointer (some ⟨g1,2,none⟩)) rfl rfl rfl (qZ rfl ff183_2) ?_
    refine qr 8 (qD3 a9 x8 c10) rfl rfl rfl (qq (i:=0) rfl tf56 rfl rfl (fun _=>rfl) rfl) ?_
    refine qb 9 (qD2 x18) rfl rfl rfl (zn rfl) ?_
    refine qb 10 (qD4 g1) rfl rfl rfl (zn rfl) ?_
    refine qb 11 (qD4 g1) rfl rfl rfl (zn rfl) ?_
    refine qb 12 (.pointer (some ⟨g1,5,none⟩)) rfl rfl rfl (qZ rfl ff183_5) ?_
    refine qr 13 (qD2 (iadd .i64 x17 1)) rfl rfl rfl (qq (i:=0) rfl tf3 rfl rfl (fun _=>rfl) rfl) ?_
    refine qb 14 (qD4 g1) rfl rfl rfl (zn rfl) ?_
    refine qb 15 (qD4 g1) rfl rfl rfl (zn rfl) ?_
    refine qb 16 (.pointer (some ⟨g1,5,none⟩)) rfl rfl rfl (qZ rfl ff183_5) ?_
    refine qr 17 (qD2 (iadd .i64 x17 1)) rfl rfl rfl (qq (i:=0) rfl tf3 rfl rfl (fun _=>rfl) rfl) ?_
    refine zR (d:=16) (v:=qD3 (some ⟨g34,0,none⟩) x5 c7) rfl (by simp only[qD3,h35] <;> rfl) ?_
    refine qb 18 (.pointer (some ⟨g34,x18.toNat*1,none⟩)) rfl rfl rfl (qbu underlying56 tf3 rfl rfl (qw e33).1 (qcu e33)) ?_
    refine zR (d:=16) (v:=qD3 a6 x5 c7) rfl (by simp only[qD3,h35] <;> rfl) ?_
    refine qgs 19 rfl (by kernel_rfl) rfl ?_
    refine zZ (j:=0) (y':=iadd .i64 x17 1) (qA .i64) rfl rfl rfl tf3 rfl (zF h35) (qw e33).2.1 rfl (fun x41 e41 h42=>?_)
    have h43:x41.length=x5.length:=by rw[← e41,qBA]
    refine qp (d:=16) (v:=qD3 a6 x41 c7) rfl h42 ?_
    refine qS (i:=0) (cs':=[qD3 a3 x2 c4.1,qD3 a6 x41 c7,qD3 a9 x8 c10,qD3 a12 x11 c13,qD3 a15 x14 c16,qD2 (iadd .i64 x17 1)]) rfl (by simp only[qD3,h42] <;> rfl) ?_
    refine zC ?_
    refine qc (.cons 0 (by simp only[qD3,h43] <;> rfl) .nil) (qh 0 rfl qf) ?_
    refine zR (d:=21) (v:=qD3 (some ⟨g38,0,none⟩) x8 c10) rfl (by simp only[qD3,h39] <;> rfl) ?_
    refine qb 20 (.pointer (some ⟨g38,x18.toNat*1,none⟩)) rfl rfl rfl (qbu underlying56 tf3 rfl rfl (qw e37).1 (qcu e37)) ?_
    refine zR (d:=21) (v:=qD3 a9 x8 c10) rfl (by simp only[qD3,h39] <;> rfl) ?_
    refine qgs 21 rfl (by kernel_rfl) rfl ?_
    refine zZ (j:=1) (y':=iadd .i64 x17 1) (qA .i64) rfl rfl rfl tf3 rfl (zF h39) (qw e37).2.1 rfl (fun x44 e44 h45=>?_)
    have h46:x44.length=x8.length:=by rw[← e44,qBA]
    refine qp (d:=21) (v:=qD3 a9 x44 c10) rfl h45 ?_
    refine qS (i:=0) (cs':=[qD3 a3 x2 c4.1,qD3 a6 x41 c7,qD3 a9 x44 c10,qD3 a12 x11 c13,qD3 a15 x14 c16,qD2 (iadd .i64 x17 1)]) rfl (by simp only[qD3,h45] <;> rfl) ?_
    refine zC ?_
    refine qc (.cons 0 (by simp only[qD3,h43,h46] <;> rfl) .nil) (qh 0 rfl qf) ?_
    refine qgr (by kernel_rfl) ?_
    refine qj6 ?_ (by intro c h;cases h)
    refine zx ?_
    refine kj ?_
    refine qP ?_
    refine qU rfl rfl rfl ?_
    refine qU rfl rfl rfl ?_
    refine zT rfl rfl rfl ?_
    refine qR rfl rfl ff183_3 rfl ?_
    refine zO (i:=0) rfl rfl tf56 rfl rfl (fun _=>rfl) rfl rfl ?_
    refine qU rfl rfl rfl ?_
    refine qaX (vs:=[qD2 x18]) (ys:=([x18]:qD0)) (qA .i64) (by decide) rfl underlying56 tf3 rfl rfl rfl rfl rfl (by decide) (fun a47 c48=>?_)
    refine zo 3 (qA .i64) rfl underlying56 tf3 rfl rfl rfl rfl rfl (.inl ⟨0,_,rfl⟩) rfl rfl (fun x49 e49 a50 c51=>?_)
    refine zT rfl rfl rfl ?_
    refine qR rfl rfl ff183_3 rfl ?_
    refine kA (i:=0) rfl rfl rfl tf56 rfl rfl rfl rfl rfl ?_
    refine zC ?_
    refine zx ?_
    refine qg [0,1] [] [] [0] (fun (((x0,x1,x3,x4,x6),a0,c0,a1,c1,a2,c2,a4,c3):(qD0×qD0×qD0×qD0×Int)×qD1×Nat×qD1×Nat×qD1×Nat×qD1×Nat)=>([],[⟨g1,183,[qD3 a3 x2 c4.1,qD3 a0 x0 c0,qD3 a1 x1 c1,qD3 a2 x3 c2,qD3 a4 x4 c3,qD2 x6]⟩],[qD6 a0 x0 c0,qD6 a1 x1 c1,qD6 a2 x3 c2,qD6 a4 x4 c3],[],jI F x2 x18 x0 x1 x3 x4 x6)) ?_ ?_
    · refine kj ?_
      refine qP ?_
      refine qU rfl rfl rfl ?_
      refine zT rfl rfl rfl ?_
      refine qR rfl rfl ff183_0 rfl ?_
      refine zO (i:=0) rfl rfl tf22 rfl rfl (fun _=>rfl) rfl rfl ?_
      refine qU rfl rfl rfl ?_
      refine qix (j:=0) qn (by decide) rfl underlying22 tf56 rfl rfl rfl rfl (fun x7 e0 g0 b0 o0=>?_)
      refine qhK (j:=0) rfl rfl tf56 rfl rfl (fun _=>rfl) rfl rfl ?_
      refine qol rfl underlying56 rfl rfl ?_
      refine qU rfl rfl rfl ?_
      refine zC ?_
      refine zx ?_
      refine qgt ?_
      refine qm4 [0,1,49,50] [] [] [1,2] (fun (((x9,x10,x12,x13,x15,x16),a5,c5,a7,c6,a8,c8,a10,c9):(Int×qD0×qD0×qD0×qD0×Int)×qD1×Nat×qD1×Nat×qD1×Nat×qD1×Nat)=>([(51,qD2 x9)],[⟨g1,183,[qD3 a3 x2 c4.1,qD3 a5 x10 c5,qD3 a7 x12 c6,qD3 a8 x13 c8,qD3 a10 x15 c9,qD2 x16]⟩],[qD6 a5 x10 c5,qD6 a7 x12 c6,qD6 a8 x13 c8,qD6 a10 x15 c9],[])) (fun k (s:(Int×qD0×qD0×qD0×qD0×Int)×qD1×Nat×qD1×Nat×qD1×Nat×qD1×Nat)=>za F (qT F) x2 x18 x7 k s.1) ((0,x41,x44,x49,x14,iadd .i64 x17 1),a6,c7,a9,c10,a50,c51,a15,c16) F ?_
      intro k0
      rintro ⟨⟨x9,x10,x12,x13,x15,x16⟩,a5,c5,a7,c6,a8,c8,a10,c9⟩
      try dsimp only
      refine qaJ (m':=yR F (qT F) x2 x18 x7 (za F (qT F) x2 x18 x7 k0) x9 x10 x12 x13 x15 x16) rfl ?_
      refine kj ?_
      refine qP ?_
      refine qom rfl rfl rfl rfl ?_
      refine zC ?_
      refine zx ?_
      refine kj ?_
      refine qj1 rfl (fun h0=>?_) (fun h0=>?_)
      · refine qhx ?_
        refine zx ?_
        refine qg [0,1,49,50,51] [] [] [0,1] (fun (((x19,x20,x21,x22,x23),a11,c11,a13,c12,a14,c14,a16,c15):(qD0×qD0×qD0×qD0×Int)×qD1×Nat×qD1×Nat×qD1×Nat×qD1×Nat)=>([],[⟨g1,183,[qD3 a3 x2 c4.1,qD3 a11 x19 c11,qD3 a13 x20 c12,qD3 a14 x21 c14,qD3 a16 x22 c15,qD2 x23]⟩],[qD6 a11 x19 c11,qD6 a13 x20 c12,qD6 a14 x21 c14,qD6 a16 x22 c15],[],zA F (za F (qT F) x2 x18 x7 k0) x9 x19 x20 x21 x22 x23)) ?_ ?_
        · refine qgt ?_
          refine kj ?_
          refine qP ?_
          refine vL (j:=0) (qA .i64) (by decide) rfl underlying56 tf3 rfl rfl rfl rfl (fun x24 e1 b1 o1=>?_)
          refine qhK (j:=0) rfl rfl tf3 rfl rfl (fun _=>rfl) rfl rfl ?_
          refine kz rfl rfl rfl ?_
          refine zC ?_
          refine zx ?_
          refine qgt ?_
          refine kj ?_
          refine qP ?_
          refine qU rfl rfl rfl ?_
          refine zT rfl rfl rfl ?_
          refine qR rfl rfl ff183_1 rfl ?_
          refine zO (i:=0) rfl rfl tf56 rfl rfl (fun _=>rfl) rfl rfl ?_
          refine qU rfl rfl rfl ?_
          refine qcv (j:=0) rfl underlying56 tf3 rfl rfl rfl rfl (fun x25 e2 g2 h1=>?_)
          refine ku (j:=0) (y:=x25) (qA .i64) rfl rfl tf3 rfl h1 (qw e2).2.2 (fun _=>rfl) rfl rfl ?_
          refine qsZ rfl rfl rfl rfl ?_
          refine kz rfl rfl rfl ?_
          refine zC ?_
          refine zx ?_
          refine qj1 rfl (fun h2=>?_) (fun h2=>?_)
          · refine kj ?_
            refine qP ?_
            refine qU rfl rfl rfl ?_
            refine qU rfl rfl rfl ?_
            refine qcB EnC.e rfl rfl rfl (fun x26 e3=>ih g1 x2 a3 c4 x10 a5 c5 x12 a7 c6 x13 a8 c8 x15 a10 c9 x16 x24 x26 e3) (.cons 0 rfl .nil) (.cons 0 rfl (.cons 0 rfl (.cons 0 rfl (.cons 0 rfl .nil)))) (.consF 2 rfl .nil) (fun x26 e3=>?_)
            rintro ⟨⟨a17,c17⟩,⟨a18,c18⟩,⟨a19,c19⟩,a20,c20⟩
            refine zC ?_
            refine zx ?_
            refine qbJ (j:=1) rfl (fun x27 e4 g3 h3=>?_)
            replace h3:a18=some ⟨g3,0,none⟩:=h3
            have h4:=zF (k:=x26.2.1.length) (c:=c18) h3
            refine qbJ (j:=1) rfl (fun x28 e5 g4 h5=>?_)
            replace h5:a18=some ⟨g4,0,none⟩:=h5
            have h6:=zF (k:=x26.2.1.length) (c:=c18) h5
            refine qbJ (j:=1) rfl (fun x29 e6 g5 h7=>?_)
            replace h7:a18=some ⟨g5,0,none⟩:=h7
            have h8:=zF (k:=x26.2.1.length) (c:=c18) h7
            refine kg mixed [21] _ _ (.cons 0 rfl .nil) (qh 0 rfl (qh 1 rfl (qh 2 rfl (qB 1 rfl (ql (qA .i64) e4 h3) (qB 1 rfl (ql (qA .i64) e5 h5) (qB 1 rfl (ql (qA .i64) e6 h7) qf)))))) 22 rfl ?_
            refine qb 0 (qD4 g1) rfl rfl rfl (zn rfl) ?_
            refine qb 1 (qD4 g1) rfl rfl rfl (zn rfl) ?_
            refine qb 2 (.pointer (some ⟨g1,2,none⟩)) rfl rfl rfl (qZ rfl ff183_2) ?_
            refine qr 3 (qD3 a18 x26.2.1 c18) rfl rfl rfl (qq (i:=0) rfl tf56 rfl rfl (fun _=>rfl) rfl) ?_
            refine qb 4 (qD2 x18) rfl rfl rfl (zn rfl) ?_
            refine qb 5 (qD4 g1) rfl rfl rfl (zn rfl) ?_
            refine qb 6 (qD4 g1) rfl rfl rfl (zn rfl) ?_
            refine qb 7 (.pointer (some ⟨g1,2,none⟩)) rfl rfl rfl (qZ rfl ff183_2) ?_
            refine qr 8 (qD3 a18 x26.2.1 c18) rfl rfl rfl (qq (i:=0) rfl tf56 rfl rfl (fun _=>rfl) rfl) ?_
            refine qb 9 (qD2 x18) rfl rfl rfl (zn rfl) ?_
            refine zR (d:=75) (v:=qD3 (some ⟨g3,0,none⟩) x26.2.1 c18) rfl (by simp only[qD3,h3] <;> rfl) ?_
            refine qb 10 (.pointer (some ⟨g3,x18.toNat*1,none⟩)) rfl rfl rfl (qbu underlying56 tf3 rfl rfl (qw e4).1 (qcu e4)) ?_
            refine zR (d:=75) (v:=qD3 a18 x26.2.1 c18) rfl (by simp only[qD3,h3] <;> rfl) ?_
            refine qz 11 (qD2 x27) [[21]] rfl rfl rfl (qV (j:=3) rfl tf3 rfl rfl (fun _=>rfl) rfl) ?_
            refine qb 12 (qD4 g1) rfl rfl rfl (zn rfl) ?_
            refine qb 13 (qD4 g1) rfl rfl rfl (zn rfl) ?_
            refine qb 14 (.pointer (some ⟨g1,2,none⟩)) rfl rfl rfl (qZ rfl ff183_2) ?_
            refine qr 15 (qD3 a18 x26.2.1 c18) rfl rfl rfl (qq (i:=0) rfl tf56 rfl rfl (fun _=>rfl) rfl) ?_
            refine qb 16 (qD2 x24) rfl rfl rfl (zn rfl) ?_
            refine zR (d:=82) (v:=qD3 (some ⟨g4,0,none⟩) x26.2.1 c18) rfl (by simp only[qD3,h5] <;> rfl) ?_
            refine qb 17 (.pointer (some ⟨g4,x24.toNat*1,none⟩)) rfl rfl rfl (qbu underlying56 tf3 rfl rfl (qw e5).1 (qcu e5)) ?_
            refine zR (d:=82) (v:=qD3 a18 x26.2.1 c18) rfl (by simp only[qD3,h5] <;> rfl) ?_
            refine qz 18 (qD2 x28) [[21]] rfl rfl rfl (qV (j:=4) rfl tf3 rfl rfl (fun _=>rfl) rfl) ?_
            refine qb 19 (qD2 (imin x27 x28)) rfl rfl rfl (qrJ rfl rfl) ?_
            refine zR (d:=70) (v:=qD3 (some ⟨g5,0,none⟩) x26.2.1 c18) rfl (by simp only[qD3,h7] <;> rfl) ?_
            refine qb 20 (.pointer (some ⟨g5,x18.toNat*1,none⟩)) rfl rfl rfl (qbu underlying56 tf3 rfl rfl (qw e6).1 (qcu e6)) ?_
            refine zR (d:=70) (v:=qD3 a18 x26.2.1 c18) rfl (by simp only[qD3,h7] <;> rfl) ?_
            refine qgs 21 rfl (by kernel_rfl) rfl ?_
            refine zZ (j:=1) (y':=imin x27 x28) (qA .i64) rfl rfl rfl tf3 rfl (zF h7) (qw e6).2.1 rfl (fun x30 e7 h9=>?_)
            have h10:x30.length=x26.2.1.length:=by rw[← e7,qBA]
            refine qp (d:=70) (v:=qD3 a18 x30 c18) rfl h9 ?_
            refine qp (d:=75) (v:=qD3 a18 x30 c18) rfl h9 ?_
            refine qp (d:=82) (v:=qD3 a18 x30 c18) rfl h9 ?_
            refine qS (i:=0) (cs':=[qD3 a3 x2 c4.1,qD3 a17 x26.1 c17,qD3 a18 x30 c18,qD3 a19 x26.2.2.1 c19,qD3 a20 x26.2.2.2.1 c20,qD2 x26.2.2.2.2]) rfl (by simp only[qD3,h9] <;> rfl) ?_
            refine zC ?_
            refine kQ 21 rfl (by kernel_rfl) (.cons 0 (by simp only[qD3,h10] <;> rfl) .nil) ?_
            refine qgr (by kernel_rfl) ?_
            refine qj6 ?_ (by intro c h;cases h)
            refine qee ?_
            refine qee ?_
            exact ya ((x26.1,x30,x26.2.2.1,x26.2.2.2.1,x26.2.2.2.2),a17,c17,a18,c18,a19,c19,a20,c20) (hB:=(.cons 0 rfl .nil)) (hR:=(.cons 1 rfl (.cons 0 rfl (.cons 0 rfl (.cons 0 rfl .nil))))) (hF:=(qi 1 rfl (qi 2 rfl zB)))
          · refine kj ?_
            refine qP ?_
            refine qU rfl rfl rfl ?_
            refine zT rfl rfl rfl ?_
            refine qR rfl rfl ff183_4 rfl ?_
            refine zO (i:=0) rfl rfl tf56 rfl rfl (fun _=>rfl) rfl rfl ?_
            refine qU rfl rfl rfl ?_
            refine qcv (j:=3) rfl underlying56 tf3 rfl rfl rfl rfl (fun x31 e8 g6 h11=>?_)
            refine ku (j:=3) (y:=x31) (qA .i64) rfl rfl tf3 rfl h11 (qw e8).2.2 (fun _=>rfl) rfl rfl ?_
            refine qom rfl rfl rfl rfl ?_
            refine kz rfl rfl rfl ?_
            refine zC ?_
            refine zx ?_
            refine qj1 rfl (fun h12=>?_) (fun h12=>?_)
            · refine qbJ (j:=1) rfl (fun x32 e9 g7 h13=>?_)
              replace h13:a7=some ⟨g7,0,none⟩:=h13
              have h14:=zF (k:=x12.length) (c:=c6) h13
              refine qbJ (j:=0) rfl (fun x34 e10 g8 h15=>?_)
              replace h15:a5=some ⟨g8,0,none⟩:=h15
              have h16:=zF (k:=x10.length) (c:=c5) h15
              refine qbJ (j:=1) rfl (fun x35 e11 g9 h17=>?_)
              replace h17:a7=some ⟨g9,0,none⟩:=h17
              have h18:=zF (k:=x12.length) (c:=c6) h17
              refine kg mixed [21] _ _ (.cons 0 rfl .nil) (qh 0 rfl (qh 1 rfl (qh 2 rfl (qB 1 rfl (ql (qA .i64) e9 h13) (qB 0 rfl (ql (qA .i64) e10 h15) (qB 1 rfl (ql (qA .i64) e11 h17) qf)))))) 22 rfl ?_
              refine qb 0 (qD4 g1) rfl rfl rfl (zn rfl) ?_
              refine qb 1 (qD4 g1) rfl rfl rfl (zn rfl) ?_
              refine qb 2 (.pointer (some ⟨g1,2,none⟩)) rfl rfl rfl (qZ rfl ff183_2) ?_
              refine qr 3 (qD3 a7 x12 c6) rfl rfl rfl (qq (i:=0) rfl tf56 rfl rfl (fun _=>rfl) rfl) ?_
              refine qb 4 (qD2 x18) rfl rfl rfl (zn rfl) ?_
              refine qb 5 (qD4 g1) rfl rfl rfl (zn rfl) ?_
              refine qb 6 (qD4 g1) rfl rfl rfl (zn rfl) ?_
              refine qb 7 (.pointer (some ⟨g1,2,none⟩)) rfl rfl rfl (qZ rfl ff183_2) ?_
              refine qr 8 (qD3 a7 x12 c6) rfl rfl rfl (qq (i:=0) rfl tf56 rfl rfl (fun _=>rfl) rfl) ?_
              refine qb 9 (qD2 x18) rfl rfl rfl (zn rfl) ?_
              refine zR (d:=105) (v:=qD3 (some ⟨g7,0,none⟩) x12 c6) rfl (by simp only[qD3,h13] <;> rfl) ?_
              refine qb 10 (.pointer (some ⟨g7,x18.toNat*1,none⟩)) rfl rfl rfl (qbu underlying56 tf3 rfl rfl (qw e9).1 (qcu e9)) ?_
              refine zR (d:=105) (v:=qD3 a7 x12 c6) rfl (by simp only[qD3,h13] <;> rfl) ?_
              refine qz 11 (qD2 x32) [[21]] rfl rfl rfl (qV (j:=3) rfl tf3 rfl rfl (fun _=>rfl) rfl) ?_
              refine qb 12 (qD4 g1) rfl rfl rfl (zn rfl) ?_
              refine qb 13 (qD4 g1) rfl rfl rfl (zn rfl) ?_
              refine qb 14 (.pointer (some ⟨g1,1,none⟩)) rfl rfl rfl (qZ rfl ff183_1) ?_
              refine qr 15 (qD3 a5 x10 c5) rfl rfl rfl (qq (i:=0) rfl tf56 rfl rfl (fun _=>rfl) rfl) ?_
              refine qb 16 (qD2 x24) rfl rfl rfl (zn rfl) ?_
              refine zR (d:=112) (v:=qD3 (some ⟨g8,0,none⟩) x10 c5) rfl (by simp only[qD3,h15] <;> rfl) ?_
              refine qb 17 (.pointer (some ⟨g8,x24.toNat*1,none⟩)) rfl rfl rfl (qbu underlying56 tf3 rfl rfl (qw e10).1 (qcu e10)) ?_
              refine zR (d:=112) (v:=qD3 a5 x10 c5) rfl (by simp only[qD3,h15] <;> rfl) ?_
              refine qz 18 (qD2 x34) [[21]] rfl rfl rfl (qV (j:=4) rfl tf3 rfl rfl (fun _=>rfl) rfl) ?_
              refine qb 19 (qD2 (imin x32 x34)) rfl rfl rfl (qrJ rfl rfl) ?_
              refine zR (d:=100) (v:=qD3 (some ⟨g9,0,none⟩) x12 c6) rfl (by simp only[qD3,h17] <;> rfl) ?_
              refine qb 20 (.pointer (some ⟨g9,x18.toNat*1,none⟩)) rfl rfl rfl (qbu underlying56 tf3 rfl rfl (qw e11).1 (qcu e11)) ?_
              refine zR (d:=100) (v:=qD3 a7 x12 c6) rfl (by simp only[qD3,h17] <;> rfl) ?_
              refine qgs 21 rfl (by kernel_rfl) rfl ?_
              refine zZ (j:=1) (y':=imin x32 x34) (qA .i64) rfl rfl rfl tf3 rfl (zF h17) (qw e11).2.1 rfl (fun x36 e12 h19=>?_)
              have h20:x36.length=x12.length:=by rw[← e12,qBA]
              refine qp (d:=100) (v:=qD3 a7 x36 c6) rfl h19 ?_
              refine qp (d:=105) (v:=qD3 a7 x36 c6) rfl h19 ?_
              refine qS (i:=0) (cs':=[qD3 a3 x2 c4.1,qD3 a5 x10 c5,qD3 a7 x36 c6,qD3 a8 x13 c8,qD3 a10 x15 c9,qD2 x16]) rfl (by simp only[qD3,h19] <;> rfl) ?_
              refine zC ?_
              refine kQ 21 rfl (by kernel_rfl) (.cons 0 (by simp only[qD3,h20] <;> rfl) .nil) ?_
              refine qgr (by kernel_rfl) ?_
              refine qj6 ?_ (by intro c h;cases h)
              refine qee ?_
              refine qee ?_
              exact ya ((x10,x36,x13,x15,x16),a5,c5,a7,c6,a8,c8,a10,c9) (hB:=(.cons 0 rfl .nil)) (hR:=(.cons 1 rfl (.cons 0 rfl (.cons 0 rfl (.cons 0 rfl .nil))))) (hF:=(qi 1 rfl (qi 2 rfl zB)))
            · refine qhx ?_
              refine qee ?_
              refine qee ?_
              exact ya ((x10,x12,x13,x15,x16),a5,c5,a7,c6,a8,c8,a10,c9) (hB:=(.cons 0 rfl .nil)) (hR:=(.cons 0 rfl (.cons 0 rfl (.cons 0 rfl (.cons 0 rfl .nil))))) (hF:=(qi 1 rfl (qi 2 rfl zB)))
        · rintro ⟨⟨x19,x20,x21,x22,x23⟩,a11,c11,a13,c12,a14,c14,a16,c15⟩
          try dsimp only
          refine qP ?_
          refine qkB rfl rfl rfl rfl ?_
          refine qU rfl rfl rfl ?_
          refine zC ?_
          exact vn ((iadd .i64 x9 1,x19,x20,x21,x22,x23),a11,c11,a13,c12,a14,c14,a16,c15) (hB:=(.cons 0 rfl .nil)) (hR:=(.cons 0 rfl (.cons 0 rfl (.cons 0 rfl (.cons 0 rfl .nil))))) (hF:=(qi 0 rfl (qi 1 rfl zB)))
      · refine qpY ?_
        refine qj7 ?_
        refine qj7 ?_
        refine qp8 ?_
        exact ya ((x10,x12,x13,x15,x16),a5,c5,a7,c6,a8,c8,a10,c9) (hB:=(.cons 0 rfl .nil)) (hR:=(.cons 0 rfl (.cons 0 rfl (.cons 0 rfl (.cons 0 rfl .nil))))) (hF:=(qi 1 rfl zB))
    · rintro ⟨⟨x0,x1,x3,x4,x6⟩,a0,c0,a1,c1,a2,c2,a4,c3⟩
      try dsimp only
      refine kj ?_
      refine qbJ (j:=1) rfl (fun x38 e13 g10 h21=>?_)
      replace h21:a1=some ⟨g10,0,none⟩:=h21
      have h22:=zF (k:=x1.length) (c:=c1) h21
      refine qbJ (j:=0) rfl (fun x39 e14 g11 h23=>?_)
      replace h23:a0=some ⟨g11,0,none⟩:=h23
      have h24:=zF (k:=x0.length) (c:=c0) h23
      refine kg mixed [] _ _ (.cons 0 rfl .nil) (qh 0 rfl (qB 1 rfl (ql (qA .i64) e13 h21) (qB 0 rfl (ql (qA .i64) e14 h23) qf))) 15 rfl ?_
      refine qb 0 (qD4 g1) rfl rfl rfl (zn rfl) ?_
      refine qb 1 (qD4 g1) rfl rfl rfl (zn rfl) ?_
      refine qb 2 (.pointer (some ⟨g1,2,none⟩)) rfl rfl rfl (qZ rfl ff183_2) ?_
      refine qr 3 (qD3 a1 x1 c1) rfl rfl rfl (qq (i:=0) rfl tf56 rfl rfl (fun _=>rfl) rfl) ?_
      refine qb 4 (qD2 x18) rfl rfl rfl (zn rfl) ?_
      refine zR (d:=122) (v:=qD3 (some ⟨g10,0,none⟩) x1 c1) rfl (by simp only[qD3,h21] <;> rfl) ?_
      refine qb 5 (.pointer (some ⟨g10,x18.toNat*1,none⟩)) rfl rfl rfl (qbu underlying56 tf3 rfl rfl (qw e13).1 (qcu e13)) ?_
      refine zR (d:=122) (v:=qD3 a1 x1 c1) rfl (by simp only[qD3,h21] <;> rfl) ?_
      refine qz 6 (qD2 x38) [] rfl rfl rfl (qV (j:=1) rfl tf3 rfl rfl (fun _=>rfl) rfl) ?_
      refine qb 7 (qD4 g1) rfl rfl rfl (zn rfl) ?_
      refine qb 8 (qD4 g1) rfl rfl rfl (zn rfl) ?_
      refine qb 9 (.pointer (some ⟨g1,1,none⟩)) rfl rfl rfl (qZ rfl ff183_1) ?_
      refine qr 10 (qD3 a0 x0 c0) rfl rfl rfl (qq (i:=0) rfl tf56 rfl rfl (fun _=>rfl) rfl) ?_
      refine qb 11 (qD2 x18) rfl rfl rfl (zn rfl) ?_
      refine zR (d:=129) (v:=qD3 (some ⟨g11,0,none⟩) x0 c0) rfl (by simp only[qD3,h23] <;> rfl) ?_
      refine qb 12 (.pointer (some ⟨g11,x18.toNat*1,none⟩)) rfl rfl rfl (qbu underlying56 tf3 rfl rfl (qw e14).1 (qcu e14)) ?_
      refine zR (d:=129) (v:=qD3 a0 x0 c0) rfl (by simp only[qD3,h23] <;> rfl) ?_
      refine qz 13 (qD2 x39) [] rfl rfl rfl (qV (j:=2) rfl tf3 rfl rfl (fun _=>rfl) rfl) ?_
      refine qb 14 (.bool ((x38:Int) == x39)) rfl rfl rfl (zn rfl) ?_
      refine qgr (by kernel_rfl) ?_
      refine qj6 ?_ (by intro c h;cases h)
      refine zx ?_
      refine qj1 rfl (fun h25=>?_) (fun h25=>?_)
      · refine qP ?_
        refine qU rfl rfl rfl ?_
        refine qU rfl rfl rfl ?_
        refine qcB EnC.e rfl rfl rfl (fun x40 e15=>qg3 F g1 x2 a3 c4 x0 a0 c0 x1 a1 c1 x3 a2 c2 x4 a4 c3 x6 x18 x40 e15) (.cons 0 rfl .nil) (.cons 0 rfl (.cons 0 rfl (.cons 0 rfl (.cons 0 rfl .nil)))) (.consF 0 rfl .nil) (fun x40 e15=>?_)
        rintro ⟨⟨a21,c21⟩,⟨a22,c22⟩,⟨a23,c23⟩,a24,c24⟩
        refine zC ?_
        exact yr ((a21,c21),(a22,c22),(a23,c23),a24,c24) (res0 rfl) (hB:=fun h=>by subst h;exact (.cons 0 rfl .nil)) (hR:=fun h=>by subst h;exact (.cons 0 rfl (.cons 0 rfl (.cons 0 rfl (.cons 0 rfl .nil)))))
      · refine qhx ?_
        exact yr ((a0,c0),(a1,c1),(a2,c2),a4,c3) (res0 rfl) (hB:=fun h=>by subst h;exact (.cons 0 rfl .nil)) (hR:=fun h=>by subst h;exact (.cons 0 rfl (.cons 0 rfl (.cons 0 rfl (.cons 0 rfl .nil)))))
end Go.Proofs.YthibchijlpflmaaGreatDoor
