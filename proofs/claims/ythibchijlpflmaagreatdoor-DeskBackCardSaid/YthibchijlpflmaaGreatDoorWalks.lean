/- Each Go function of this seat computes what its model says. -/
import Derived.Test.YthibchijlpflmaaGreatDoorRows
import Derived.Test.YthibchijlpflmaaGreatDoorModels
import Derived.Test.YthibchijlpflmaaGreatDoorShelf
import Derived.Test.YthibchijlpflmaaGreatDoorTxt
open Bool renaming false_or→qqT, true_or→qqU
open List renaming replicate→qqF, length_set→qqR
namespace Go.Proofs.YthibchijlpflmaaGreatDoor
open Go SX
set_option linter.unusedSimpArgs false
def eN56 (p:qsO×(qsP×Nat)):List Value:=[qsR p.2.1 p.1 p.2.2]
def iN56 (p:qsO×(qsP×Nat)):List (World→Prop):=[qsT p.2.1 p.1 p.2.2]
theorem qy:EncOk eN56 1:=⟨fun _=>rfl,fun _=>rfl⟩
def rN56 (p:qsO×(qsP×Nat)):List RowF:=[FoR (eI .i64) 3 1 (qsR p.2.1 p.1 p.2.2) p.1]
theorem qb4:∀ p,iN56 p=(rN56 p).map RowF.cells:=fun _=>rfl
theorem qox:∀ f∈rN56 (([]:qsO),((none,0):qsP×Nat)),f.v=.slice none 0 0∧f.n=0∧f.cs=[]:=by simp[rN56,FoR]
def eS63 (p:(Int×Int)):List Value:=[qsQ p.1,qsQ p.2]
theorem qb2:EncOk eS63 2:=⟨fun _=>rfl,fun _=>rfl⟩
def eS209 (p:(Int×Int)):List Value:=[qsQ p.1,qsQ p.2]
theorem qer:EncOk eS209 2:=⟨fun _=>rfl,fun _=>rfl⟩
instance tf3:TyF Tryz.prog 3 false (qsQ 0) 1 8:=.of (by kernel_rfl) (by kernel_rfl)
instance tf4:TyF Tryz.prog 4 false (.bool false) 1 1:=.of (by kernel_rfl) (by kernel_rfl)
instance tf5:TyF Tryz.prog 5 false (.int .u8 0) 1 1:=.of (by kernel_rfl) (by kernel_rfl)
instance tf9:TyF Tryz.prog 9 false (.string (bstr ([]:qsO))) 1 16:=.of (by kernel_rfl) (by kernel_rfl)
instance tf22:TyF Tryz.prog 22 false (.slice none 0 0) 1 24:=.of (by kernel_rfl) (by kernel_rfl)
instance tf24:TyF Tryz.prog 24 true (.agg #[.slice none 0 0]) 1 24:=.of (by kernel_rfl) (by kernel_rfl)
instance tf26:TyF Tryz.prog 26 true (.agg #[qsQ 0,qsQ 0,qsQ 0]) 3 24:=.of (by kernel_rfl) (by kernel_rfl)
instance tf28:TyF Tryz.prog 28 true (.agg #[.slice none 0 0,qsQ 0,qsQ 0,qsQ 0]) 4 48:=.of (by kernel_rfl) (by kernel_rfl)
instance tf41:TyF Tryz.prog 41 false (.slice none 0 0) 1 24:=.of (by kernel_rfl) (by kernel_rfl)
instance tf48:TyF Tryz.prog 48 true (.agg #[.pointer none,.slice none 0 0]) 2 32:=.of (by kernel_rfl) (by kernel_rfl)
instance tf56:TyF Tryz.prog 56 false (.slice none 0 0) 1 24:=.of (by kernel_rfl) (by kernel_rfl)
instance tf58:TyF Tryz.prog 58 false (.slice none 0 0) 1 24:=.of (by kernel_rfl) (by kernel_rfl)
instance tf63:TyF Tryz.prog 63 true (.agg #[qsQ 0,qsQ 0]) 2 16:=.of (by kernel_rfl) (by kernel_rfl)
instance tf65:TyF Tryz.prog 65 true (.agg #[qsQ 0,.slice none 0 0]) 2 32:=.of (by kernel_rfl) (by kernel_rfl)
instance tf67:TyF Tryz.prog 67 true (.agg #[qsQ 0,qsQ 0,qsQ 0,qsQ 0,qsQ 0,.slice none 0 0]) 6 64:=.of (by kernel_rfl) (by kernel_rfl)
instance tf69:TyF Tryz.prog 69 true (.agg #[qsQ 0,qsQ 0,qsQ 0,qsQ 0,.slice none 0 0,qsQ 0,.slice none 0 0]) 7 88:=.of (by kernel_rfl) (by kernel_rfl)
instance tf71:TyF Tryz.prog 71 true (.agg #[qsQ 0,qsQ 0,qsQ 0,qsQ 0,qsQ 0,.slice none 0 0,qsQ 0,qsQ 0,qsQ 0,qsQ 0,.slice none 0 0,qsQ 0,.slice none 0 0]) 13 152:=.of (by kernel_rfl) (by kernel_rfl)
instance tf83:TyF Tryz.prog 83 false (.pointer none) 1 8:=.of (by kernel_rfl) (by kernel_rfl)
instance tf86:TyF Tryz.prog 86 false (.nilFunc) 1 8:=.of (by kernel_rfl) (by kernel_rfl)
instance tf88:TyF Tryz.prog 88 true (.agg #[qsQ 0,.nilFunc]) 2 16:=.of (by kernel_rfl) (by kernel_rfl)
instance tf107:TyF Tryz.prog 107 false (.nilFunc) 1 8:=.of (by kernel_rfl) (by kernel_rfl)
instance tf119:TyF Tryz.prog 119 false (.int .u64 0) 1 8:=.of (by kernel_rfl) (by kernel_rfl)
instance tf156:TyF Tryz.prog 156 true (.agg #[]) 0 0:=.of (by kernel_rfl) (by kernel_rfl)
instance tf188:TyF Tryz.prog 188 true (.agg #[qsQ 0,qsQ 0,qsQ 0]) 3 24:=.of (by kernel_rfl) (by kernel_rfl)
instance tf204:TyF Tryz.prog 204 false (.slice none 0 0) 1 24:=.of (by kernel_rfl) (by kernel_rfl)
instance tf209:TyF Tryz.prog 209 true (.agg #[qsQ 0,qsQ 0]) 2 16:=.of (by kernel_rfl) (by kernel_rfl)
instance tf247:TyF Tryz.prog 247 true (.agg #[qsQ 0,qsQ 0,.slice none 0 0]) 3 40:=.of (by kernel_rfl) (by kernel_rfl)
instance tf293:TyF Tryz.prog 293 false (.pointer none) 1 8:=.of (by kernel_rfl) (by kernel_rfl)
instance tf310:TyF Tryz.prog 310 true (.agg #[]) 0 0:=.of (by kernel_rfl) (by kernel_rfl)
instance ff24_0:FdF Tryz.prog 24 0 0:=.of (by kernel_rfl)
instance ff26_0:FdF Tryz.prog 26 0 0:=.of (by kernel_rfl)
instance ff26_1:FdF Tryz.prog 26 1 1:=.of (by kernel_rfl)
instance ff26_2:FdF Tryz.prog 26 2 2:=.of (by kernel_rfl)
instance ff28_0:FdF Tryz.prog 28 0 0:=.of (by kernel_rfl)
instance ff28_1:FdF Tryz.prog 28 1 1:=.of (by kernel_rfl)
instance ff63_0:FdF Tryz.prog 63 0 0:=.of (by kernel_rfl)
instance ff63_1:FdF Tryz.prog 63 1 1:=.of (by kernel_rfl)
instance ff65_0:FdF Tryz.prog 65 0 0:=.of (by kernel_rfl)
instance ff65_1:FdF Tryz.prog 65 1 1:=.of (by kernel_rfl)
instance ff67_0:FdF Tryz.prog 67 0 0:=.of (by kernel_rfl)
instance ff67_1:FdF Tryz.prog 67 1 1:=.of (by kernel_rfl)
instance ff67_2:FdF Tryz.prog 67 2 4:=.of (by kernel_rfl)
instance ff69_0:FdF Tryz.prog 69 0 0:=.of (by kernel_rfl)
instance ff69_1:FdF Tryz.prog 69 1 1:=.of (by kernel_rfl)
instance ff69_2:FdF Tryz.prog 69 2 2:=.of (by kernel_rfl)
instance ff69_3:FdF Tryz.prog 69 3 3:=.of (by kernel_rfl)
instance ff69_4:FdF Tryz.prog 69 4 5:=.of (by kernel_rfl)
instance ff71_0:FdF Tryz.prog 71 0 0:=.of (by kernel_rfl)
instance ff71_1:FdF Tryz.prog 71 1 6:=.of (by kernel_rfl)
instance ff85_0:FdF Tryz.prog 85 0 0:=.of (by kernel_rfl)
instance ff85_1:FdF Tryz.prog 85 1 4:=.of (by kernel_rfl)
instance ff85_2:FdF Tryz.prog 85 2 5:=.of (by kernel_rfl)
instance ff88_0:FdF Tryz.prog 88 0 0:=.of (by kernel_rfl)
instance ff88_1:FdF Tryz.prog 88 1 1:=.of (by kernel_rfl)
instance ff137_0:FdF Tryz.prog 137 0 0:=.of (by kernel_rfl)
instance ff137_1:FdF Tryz.prog 137 1 1:=.of (by kernel_rfl)
instance ff169_0:FdF Tryz.prog 169 0 0:=.of (by kernel_rfl)
instance ff169_1:FdF Tryz.prog 169 1 6:=.of (by kernel_rfl)
instance ff169_2:FdF Tryz.prog 169 2 7:=.of (by kernel_rfl)
instance ff174_0:FdF Tryz.prog 174 0 0:=.of (by kernel_rfl)
instance ff174_1:FdF Tryz.prog 174 1 13:=.of (by kernel_rfl)
instance ff183_0:FdF Tryz.prog 183 0 0:=.of (by kernel_rfl)
instance ff183_1:FdF Tryz.prog 183 1 1:=.of (by kernel_rfl)
instance ff183_2:FdF Tryz.prog 183 2 2:=.of (by kernel_rfl)
instance ff183_3:FdF Tryz.prog 183 3 3:=.of (by kernel_rfl)
instance ff183_4:FdF Tryz.prog 183 4 4:=.of (by kernel_rfl)
instance ff183_5:FdF Tryz.prog 183 5 5:=.of (by kernel_rfl)
instance ff209_0:FdF Tryz.prog 209 0 0:=.of (by kernel_rfl)
instance ff209_1:FdF Tryz.prog 209 1 1:=.of (by kernel_rfl)
instance ff247_0:FdF Tryz.prog 247 0 0:=.of (by kernel_rfl)
instance ff247_1:FdF Tryz.prog 247 1 1:=.of (by kernel_rfl)
instance ff263_0:FdF Tryz.prog 263 0 0:=.of (by kernel_rfl)
instance ff263_1:FdF Tryz.prog 263 1 2:=.of (by kernel_rfl)
instance ff299_0:FdF Tryz.prog 299 0 0:=.of (by kernel_rfl)
instance ff302_0:FdF Tryz.prog 302 0 0:=.of (by kernel_rfl)
instance ff302_1:FdF Tryz.prog 302 1 2:=.of (by kernel_rfl)
instance ff316_0:FdF Tryz.prog 316 0 0:=.of (by kernel_rfl)
instance ff316_1:FdF Tryz.prog 316 1 2:=.of (by kernel_rfl)
instance ff359_0:FdF Tryz.prog 359 0 0:=.of (by kernel_rfl)
instance ff359_1:FdF Tryz.prog 359 1 1:=.of (by kernel_rfl)
instance ff363_0:FdF Tryz.prog 363 0 0:=.of (by kernel_rfl)
instance ff363_1:FdF Tryz.prog 363 1 1:=.of (by kernel_rfl)
instance ff363_2:FdF Tryz.prog 363 2 2:=.of (by kernel_rfl)
instance st24:StF Tryz.prog 24 [(0,1)] (.agg #[.slice none 0 0]):=.of (by kernel_rfl) (by kernel_rfl)
instance st26:StF Tryz.prog 26 [(0,1),(1,1),(2,1)] (.agg #[qsQ 0,qsQ 0,qsQ 0]):=.of (by kernel_rfl) (by kernel_rfl)
instance st28:StF Tryz.prog 28 [(0,1),(1,3)] (.agg #[.slice none 0 0,qsQ 0,qsQ 0,qsQ 0]):=.of (by kernel_rfl) (by kernel_rfl)
instance st63:StF Tryz.prog 63 [(0,1),(1,1)] (.agg #[qsQ 0,qsQ 0]):=.of (by kernel_rfl) (by kernel_rfl)
instance st65:StF Tryz.prog 65 [(0,1),(1,1)] (.agg #[qsQ 0,.slice none 0 0]):=.of (by kernel_rfl) (by kernel_rfl)
instance st67:StF Tryz.prog 67 [(0,1),(1,3),(4,2)] (.agg #[qsQ 0,qsQ 0,qsQ 0,qsQ 0,qsQ 0,.slice none 0 0]):=.of (by kernel_rfl) (by kernel_rfl)
instance st69:StF Tryz.prog 69 [(0,1),(1,1),(2,1),(3,2),(5,2)] (.agg #[qsQ 0,qsQ 0,qsQ 0,qsQ 0,.slice none 0 0,qsQ 0,.slice none 0 0]):=.of (by kernel_rfl) (by kernel_rfl)
instance st71:StF Tryz.prog 71 [(0,6),(6,7)] (.agg #[qsQ 0,qsQ 0,qsQ 0,qsQ 0,qsQ 0,.slice none 0 0,qsQ 0,qsQ 0,qsQ 0,qsQ 0,.slice none 0 0,qsQ 0,.slice none 0 0]):=.of (by kernel_rfl) (by kernel_rfl)
instance st85:StF Tryz.prog 85 [(0,4),(4,1),(5,1)] (.agg #[.slice none 0 0,qsQ 0,qsQ 0,qsQ 0,.slice none 0 0,.string (bstr ([]:qsO))]):=.of (by kernel_rfl) (by kernel_rfl)
instance st88:StF Tryz.prog 88 [(0,1),(1,1)] (.agg #[qsQ 0,.nilFunc]):=.of (by kernel_rfl) (by kernel_rfl)
instance st137:StF Tryz.prog 137 [(0,1),(1,1)] (.agg #[.slice none 0 0,.slice none 0 0]):=.of (by kernel_rfl) (by kernel_rfl)
instance st156:StF Tryz.prog 156 [] (.agg #[]):=.of (by kernel_rfl) (by kernel_rfl)
instance st169:StF Tryz.prog 169 [(0,6),(6,1),(7,1)] (.agg #[qsQ 0,qsQ 0,qsQ 0,qsQ 0,qsQ 0,.slice none 0 0,.slice none 0 0,.slice none 0 0]):=.of (by kernel_rfl) (by kernel_rfl)
instance st174:StF Tryz.prog 174 [(0,13),(13,1)] (.agg #[qsQ 0,qsQ 0,qsQ 0,qsQ 0,qsQ 0,.slice none 0 0,qsQ 0,qsQ 0,qsQ 0,qsQ 0,.slice none 0 0,qsQ 0,.slice none 0 0,qsQ 0]):=.of (by kernel_rfl) (by kernel_rfl)
instance st183:StF Tryz.prog 183 [(0,1),(1,1),(2,1),(3,1),(4,1),(5,1)] (.agg #[.slice none 0 0,.slice none 0 0,.slice none 0 0,.slice none 0 0,.slice none 0 0,qsQ 0]):=.of (by kernel_rfl) (by kernel_rfl)
instance st209:StF Tryz.prog 209 [(0,1),(1,1)] (.agg #[qsQ 0,qsQ 0]):=.of (by kernel_rfl) (by kernel_rfl)
instance st247:StF Tryz.prog 247 [(0,1),(1,2)] (.agg #[qsQ 0,qsQ 0,.slice none 0 0]):=.of (by kernel_rfl) (by kernel_rfl)
instance st263:StF Tryz.prog 263 [(0,2),(2,1)] (.agg #[qsQ 0,.slice none 0 0,qsQ 0]):=.of (by kernel_rfl) (by kernel_rfl)
instance st299:StF Tryz.prog 299 [(0,2)] (.agg #[qsQ 0,.slice none 0 0]):=.of (by kernel_rfl) (by kernel_rfl)
instance st302:StF Tryz.prog 302 [(0,2),(2,1)] (.agg #[qsQ 0,.slice none 0 0,qsQ 0]):=.of (by kernel_rfl) (by kernel_rfl)
instance st310:StF Tryz.prog 310 [] (.agg #[]):=.of (by kernel_rfl) (by kernel_rfl)
instance st316:StF Tryz.prog 316 [(0,2),(2,1)] (.agg #[qsQ 0,.slice none 0 0,.bool false]):=.of (by kernel_rfl) (by kernel_rfl)
instance st359:StF Tryz.prog 359 [(0,1),(1,1)] (.agg #[qsQ 0,.bool false]):=.of (by kernel_rfl) (by kernel_rfl)
instance st363:StF Tryz.prog 363 [(0,1),(1,1),(2,1)] (.agg #[.slice none 0 0,.bool false,qsQ 0]):=.of (by kernel_rfl) (by kernel_rfl)
instance se63:StE2 Tryz.prog 63 .i64 .i64:=⟨_,_,Tryz.underlying63,by kernel_rfl,by kernel_rfl,by decide,by decide,rfl,rfl,Tryz.underlying3,Tryz.underlying3⟩
instance se26:StE3 Tryz.prog 26 .i64 .i64 .i64:=⟨_,_,_,Tryz.underlying26,by kernel_rfl,by kernel_rfl,by decide,by decide,by decide,rfl,rfl,rfl,Tryz.underlying3,Tryz.underlying3,Tryz.underlying3⟩
theorem mixed:Tryz.prog.follows .mixedOrders=true:=by kernel_rfl
instance en10:EnC Tryz.prog 10:=⟨qd Tryz.func10 rfl rfl⟩
instance en11:EnC Tryz.prog 11:=⟨qd Tryz.func11 rfl rfl⟩
instance en12:EnC Tryz.prog 12:=⟨qd Tryz.func12 rfl rfl⟩
instance en13:EnC Tryz.prog 13:=⟨qd Tryz.func13 rfl rfl⟩
instance en14:EnC Tryz.prog 14:=⟨qd Tryz.func14 rfl rfl⟩
instance en16:EnC Tryz.prog 16:=⟨qd Tryz.func16 rfl rfl⟩
instance en19:EnC Tryz.prog 19:=⟨qd Tryz.func19 rfl rfl⟩
instance en20:EnC Tryz.prog 20:=⟨qd Tryz.func20 rfl rfl⟩
instance en21:EnC Tryz.prog 21:=⟨qd Tryz.func21 rfl rfl⟩
theorem ent22:Enters Tryz.prog 22:=qd Tryz.func22 rfl rfl
instance en22:EnC Tryz.prog 22:=⟨ent22⟩
instance en23:EnC Tryz.prog 23:=⟨qd Tryz.func23 rfl rfl⟩
theorem ent24:Enters Tryz.prog 24:=qd Tryz.func24 rfl rfl
instance en24:EnC Tryz.prog 24:=⟨ent24⟩
theorem ent25:Enters Tryz.prog 25:=qd Tryz.func25 rfl rfl
instance en25:EnC Tryz.prog 25:=⟨ent25⟩
theorem ent26:Enters Tryz.prog 26:=qd Tryz.func26 rfl rfl
instance en26:EnC Tryz.prog 26:=⟨ent26⟩
instance en28:EnC Tryz.prog 28:=⟨qd Tryz.func28 rfl rfl⟩
instance en43:EnC Tryz.prog 43:=⟨qd Tryz.func43 rfl rfl⟩
instance en44:EnC Tryz.prog 44:=⟨qd Tryz.func44 rfl rfl⟩
instance en46:EnC Tryz.prog 46:=⟨qd Tryz.func46 rfl rfl⟩
instance en49:EnC Tryz.prog 49:=⟨qd Tryz.func49 rfl rfl⟩
theorem ent58:Enters Tryz.prog 58:=qd Tryz.func58 rfl rfl
instance en58:EnC Tryz.prog 58:=⟨ent58⟩
theorem ent59:Enters Tryz.prog 59:=qd Tryz.func59 rfl rfl
instance en59:EnC Tryz.prog 59:=⟨ent59⟩
theorem ent60:Enters Tryz.prog 60:=qd Tryz.func60 rfl rfl
instance en60:EnC Tryz.prog 60:=⟨ent60⟩
theorem ent61:Enters Tryz.prog 61:=qd Tryz.func61 rfl rfl
instance en61:EnC Tryz.prog 61:=⟨ent61⟩
theorem ent62:Enters Tryz.prog 62:=qd Tryz.func62 rfl rfl
instance en62:EnC Tryz.prog 62:=⟨ent62⟩
theorem ent63:Enters Tryz.prog 63:=qd Tryz.func63 rfl rfl
instance en63:EnC Tryz.prog 63:=⟨ent63⟩
theorem ent64:Enters Tryz.prog 64:=qd Tryz.func64 rfl rfl
instance en64:EnC Tryz.prog 64:=⟨ent64⟩
theorem ent65:Enters Tryz.prog 65:=qd Tryz.func65 rfl rfl
instance en65:EnC Tryz.prog 65:=⟨ent65⟩
instance en66:EnC Tryz.prog 66:=⟨qd Tryz.func66 rfl rfl⟩
theorem ent67:Enters Tryz.prog 67:=qd Tryz.func67 rfl rfl
instance en67:EnC Tryz.prog 67:=⟨ent67⟩
theorem ent68:Enters Tryz.prog 68:=qd Tryz.func68 rfl rfl
instance en68:EnC Tryz.prog 68:=⟨ent68⟩
theorem ent69:Enters Tryz.prog 69:=qd Tryz.func69 rfl rfl
instance en69:EnC Tryz.prog 69:=⟨ent69⟩
theorem ent70:Enters Tryz.prog 70:=qd Tryz.func70 rfl rfl
instance en70:EnC Tryz.prog 70:=⟨ent70⟩
theorem ent71:Enters Tryz.prog 71:=qd Tryz.func71 rfl rfl
instance en71:EnC Tryz.prog 71:=⟨ent71⟩
instance en77:EnC Tryz.prog 77:=⟨qd Tryz.func77 rfl rfl⟩
instance en82:EnC Tryz.prog 82:=⟨qd Tryz.func82 rfl rfl⟩
instance en83:EnC Tryz.prog 83:=⟨qd Tryz.func83 rfl rfl⟩
instance en84:EnC Tryz.prog 84:=⟨qd Tryz.func84 rfl rfl⟩
instance en85:EnC Tryz.prog 85:=⟨qd Tryz.func85 rfl rfl⟩
instance en86:EnC Tryz.prog 86:=⟨qd Tryz.func86 rfl rfl⟩
instance en87:EnC Tryz.prog 87:=⟨qd Tryz.func87 rfl rfl⟩
instance en88:EnC Tryz.prog 88:=⟨qd Tryz.func88 rfl rfl⟩
instance en89:EnC Tryz.prog 89:=⟨qd Tryz.func89 rfl rfl⟩
instance en90:EnC Tryz.prog 90:=⟨qd Tryz.func90 rfl rfl⟩
instance en91:EnC Tryz.prog 91:=⟨qd Tryz.func91 rfl rfl⟩
instance en92:EnC Tryz.prog 92:=⟨qd Tryz.func92 rfl rfl⟩
instance en93:EnC Tryz.prog 93:=⟨qd Tryz.func93 rfl rfl⟩
theorem ent94:Enters Tryz.prog 94:=qd Tryz.func94 rfl rfl
instance en94:EnC Tryz.prog 94:=⟨ent94⟩
instance en95:EnC Tryz.prog 95:=⟨qd Tryz.func95 rfl rfl⟩
instance en96:EnC Tryz.prog 96:=⟨qd Tryz.func96 rfl rfl⟩
instance en97:EnC Tryz.prog 97:=⟨qd Tryz.func97 rfl rfl⟩
instance en98:EnC Tryz.prog 98:=⟨qd Tryz.func98 rfl rfl⟩
instance en99:EnC Tryz.prog 99:=⟨qd Tryz.func99 rfl rfl⟩
instance en100:EnC Tryz.prog 100:=⟨qd Tryz.func100 rfl rfl⟩
instance en113:EnC Tryz.prog 113:=⟨qd Tryz.func113 rfl rfl⟩
instance en114:EnC Tryz.prog 114:=⟨qd Tryz.func114 rfl rfl⟩
instance en115:EnC Tryz.prog 115:=⟨qd Tryz.func115 rfl rfl⟩
instance en116:EnC Tryz.prog 116:=⟨qd Tryz.func116 rfl rfl⟩
instance en117:EnC Tryz.prog 117:=⟨qd Tryz.func117 rfl rfl⟩
theorem ent118:Enters Tryz.prog 118:=qd Tryz.func118 rfl rfl
instance en118:EnC Tryz.prog 118:=⟨ent118⟩
instance en119:EnC Tryz.prog 119:=⟨qd Tryz.func119 rfl rfl⟩
theorem ent120:Enters Tryz.prog 120:=qd Tryz.func120 rfl rfl
instance en120:EnC Tryz.prog 120:=⟨ent120⟩
instance en121:EnC Tryz.prog 121:=⟨qd Tryz.func121 rfl rfl⟩
instance en122:EnC Tryz.prog 122:=⟨qd Tryz.func122 rfl rfl⟩
instance en123:EnC Tryz.prog 123:=⟨qd Tryz.func123 rfl rfl⟩
theorem ent124:Enters Tryz.prog 124:=qd Tryz.func124 rfl rfl
instance en124:EnC Tryz.prog 124:=⟨ent124⟩
theorem ent125:Enters Tryz.prog 125:=qd Tryz.func125 rfl rfl
instance en125:EnC Tryz.prog 125:=⟨ent125⟩
instance en126:EnC Tryz.prog 126:=⟨qd Tryz.func126 rfl rfl⟩
instance en127:EnC Tryz.prog 127:=⟨qd Tryz.func127 rfl rfl⟩
instance en128:EnC Tryz.prog 128:=⟨qd Tryz.func128 rfl rfl⟩
instance en129:EnC Tryz.prog 129:=⟨qd Tryz.func129 rfl rfl⟩
theorem ent130:Enters Tryz.prog 130:=qd Tryz.func130 rfl rfl
instance en130:EnC Tryz.prog 130:=⟨ent130⟩
instance en131:EnC Tryz.prog 131:=⟨qd Tryz.func131 rfl rfl⟩
theorem ent132:Enters Tryz.prog 132:=qd Tryz.func132 rfl rfl
instance en132:EnC Tryz.prog 132:=⟨ent132⟩
instance en133:EnC Tryz.prog 133:=⟨qd Tryz.func133 rfl rfl⟩
instance en134:EnC Tryz.prog 134:=⟨qd Tryz.func134 rfl rfl⟩
instance en135:EnC Tryz.prog 135:=⟨qd Tryz.func135 rfl rfl⟩
instance en136:EnC Tryz.prog 136:=⟨qd Tryz.func136 rfl rfl⟩
instance en148:EnC Tryz.prog 148:=⟨qd Tryz.func148 rfl rfl⟩
instance en158:EnC Tryz.prog 158:=⟨qd Tryz.func158 rfl rfl⟩
theorem ent159:Enters Tryz.prog 159:=qd Tryz.func159 rfl rfl
instance en159:EnC Tryz.prog 159:=⟨ent159⟩
instance en160:EnC Tryz.prog 160:=⟨qd Tryz.func160 rfl rfl⟩
theorem ent161:Enters Tryz.prog 161:=qd Tryz.func161 rfl rfl
instance en161:EnC Tryz.prog 161:=⟨ent161⟩
instance en162:EnC Tryz.prog 162:=⟨qd Tryz.func162 rfl rfl⟩
instance en163:EnC Tryz.prog 163:=⟨qd Tryz.func163 rfl rfl⟩
instance en164:EnC Tryz.prog 164:=⟨qd Tryz.func164 rfl rfl⟩
instance en165:EnC Tryz.prog 165:=⟨qd Tryz.func165 rfl rfl⟩
instance en166:EnC Tryz.prog 166:=⟨qd Tryz.func166 rfl rfl⟩
instance en167:EnC Tryz.prog 167:=⟨qd Tryz.func167 rfl rfl⟩
instance en168:EnC Tryz.prog 168:=⟨qd Tryz.func168 rfl rfl⟩
theorem ent169:Enters Tryz.prog 169:=qd Tryz.func169 rfl rfl
instance en169:EnC Tryz.prog 169:=⟨ent169⟩
theorem ent170:Enters Tryz.prog 170:=qd Tryz.func170 rfl rfl
instance en170:EnC Tryz.prog 170:=⟨ent170⟩
theorem ent171:Enters Tryz.prog 171:=qd Tryz.func171 rfl rfl
instance en171:EnC Tryz.prog 171:=⟨ent171⟩
theorem ent173:Enters Tryz.prog 173:=qd Tryz.func173 rfl rfl
instance en173:EnC Tryz.prog 173:=⟨ent173⟩
instance en174:EnC Tryz.prog 174:=⟨qd Tryz.func174 rfl rfl⟩
instance en175:EnC Tryz.prog 175:=⟨qd Tryz.func175 rfl rfl⟩
theorem ent176:Enters Tryz.prog 176:=qd Tryz.func176 rfl rfl
instance en176:EnC Tryz.prog 176:=⟨ent176⟩
theorem ent179:Enters Tryz.prog 179:=qd Tryz.func179 rfl rfl
instance en179:EnC Tryz.prog 179:=⟨ent179⟩
instance en180:EnC Tryz.prog 180:=⟨qd Tryz.func180 rfl rfl⟩
instance en190:EnC Tryz.prog 190:=⟨qd Tryz.func190 rfl rfl⟩
instance en191:EnC Tryz.prog 191:=⟨qd Tryz.func191 rfl rfl⟩
instance en192:EnC Tryz.prog 192:=⟨qd Tryz.func192 rfl rfl⟩
instance en193:EnC Tryz.prog 193:=⟨qd Tryz.func193 rfl rfl⟩
instance en194:EnC Tryz.prog 194:=⟨qd Tryz.func194 rfl rfl⟩
instance en195:EnC Tryz.prog 195:=⟨qd Tryz.func195 rfl rfl⟩
instance en196:EnC Tryz.prog 196:=⟨qd Tryz.func196 rfl rfl⟩
instance en197:EnC Tryz.prog 197:=⟨qd Tryz.func197 rfl rfl⟩
instance en198:EnC Tryz.prog 198:=⟨qd Tryz.func198 rfl rfl⟩
instance en199:EnC Tryz.prog 199:=⟨qd Tryz.func199 rfl rfl⟩
instance en200:EnC Tryz.prog 200:=⟨qd Tryz.func200 rfl rfl⟩
instance en201:EnC Tryz.prog 201:=⟨qd Tryz.func201 rfl rfl⟩
instance en204:EnC Tryz.prog 204:=⟨qd Tryz.func204 rfl rfl⟩
theorem ent205:Enters Tryz.prog 205:=qd Tryz.func205 rfl rfl
instance en205:EnC Tryz.prog 205:=⟨ent205⟩
instance en212:EnC Tryz.prog 212:=⟨qd Tryz.func212 rfl rfl⟩
instance en216:EnC Tryz.prog 216:=⟨qd Tryz.func216 rfl rfl⟩
instance en230:EnC Tryz.prog 230:=⟨qd Tryz.func230 rfl rfl⟩
instance en231:EnC Tryz.prog 231:=⟨qd Tryz.func231 rfl rfl⟩
instance en232:EnC Tryz.prog 232:=⟨qd Tryz.func232 rfl rfl⟩
instance en233:EnC Tryz.prog 233:=⟨qd Tryz.func233 rfl rfl⟩
instance en234:EnC Tryz.prog 234:=⟨qd Tryz.func234 rfl rfl⟩
instance en235:EnC Tryz.prog 235:=⟨qd Tryz.func235 rfl rfl⟩
instance en236:EnC Tryz.prog 236:=⟨qd Tryz.func236 rfl rfl⟩
instance en237:EnC Tryz.prog 237:=⟨qd Tryz.func237 rfl rfl⟩
instance en238:EnC Tryz.prog 238:=⟨qd Tryz.func238 rfl rfl⟩
instance en239:EnC Tryz.prog 239:=⟨qd Tryz.func239 rfl rfl⟩
instance en240:EnC Tryz.prog 240:=⟨qd Tryz.func240 rfl rfl⟩
theorem ent241:Enters Tryz.prog 241:=qd Tryz.func241 rfl rfl
instance en241:EnC Tryz.prog 241:=⟨ent241⟩
instance en242:EnC Tryz.prog 242:=⟨qd Tryz.func242 rfl rfl⟩
theorem ent243:Enters Tryz.prog 243:=qd Tryz.func243 rfl rfl
instance en243:EnC Tryz.prog 243:=⟨ent243⟩
theorem ent244:Enters Tryz.prog 244:=qd Tryz.func244 rfl rfl
instance en244:EnC Tryz.prog 244:=⟨ent244⟩
theorem ent245:Enters Tryz.prog 245:=qd Tryz.func245 rfl rfl
instance en245:EnC Tryz.prog 245:=⟨ent245⟩
instance en246:EnC Tryz.prog 246:=⟨qd Tryz.func246 rfl rfl⟩
instance en247:EnC Tryz.prog 247:=⟨qd Tryz.func247 rfl rfl⟩
instance en248:EnC Tryz.prog 248:=⟨qd Tryz.func248 rfl rfl⟩
instance en258:EnC Tryz.prog 258:=⟨qd Tryz.func258 rfl rfl⟩
instance en259:EnC Tryz.prog 259:=⟨qd Tryz.func259 rfl rfl⟩
instance en260:EnC Tryz.prog 260:=⟨qd Tryz.func260 rfl rfl⟩
theorem ent261:Enters Tryz.prog 261:=qd Tryz.func261 rfl rfl
instance en261:EnC Tryz.prog 261:=⟨ent261⟩
instance en262:EnC Tryz.prog 262:=⟨qd Tryz.func262 rfl rfl⟩
instance en263:EnC Tryz.prog 263:=⟨qd Tryz.func263 rfl rfl⟩
instance en264:EnC Tryz.prog 264:=⟨qd Tryz.func264 rfl rfl⟩
instance en265:EnC Tryz.prog 265:=⟨qd Tryz.func265 rfl rfl⟩
theorem ent266:Enters Tryz.prog 266:=qd Tryz.func266 rfl rfl
instance en266:EnC Tryz.prog 266:=⟨ent266⟩
instance en267:EnC Tryz.prog 267:=⟨qd Tryz.func267 rfl rfl⟩
theorem ent268:Enters Tryz.prog 268:=qd Tryz.func268 rfl rfl
instance en268:EnC Tryz.prog 268:=⟨ent268⟩
theorem ent269:Enters Tryz.prog 269:=qd Tryz.func269 rfl rfl
instance en269:EnC Tryz.prog 269:=⟨ent269⟩
instance en270:EnC Tryz.prog 270:=⟨qd Tryz.func270 rfl rfl⟩
instance en271:EnC Tryz.prog 271:=⟨qd Tryz.func271 rfl rfl⟩
instance en272:EnC Tryz.prog 272:=⟨qd Tryz.func272 rfl rfl⟩
instance en273:EnC Tryz.prog 273:=⟨qd Tryz.func273 rfl rfl⟩
instance en274:EnC Tryz.prog 274:=⟨qd Tryz.func274 rfl rfl⟩
instance en275:EnC Tryz.prog 275:=⟨qd Tryz.func275 rfl rfl⟩
instance en276:EnC Tryz.prog 276:=⟨qd Tryz.func276 rfl rfl⟩
instance en277:EnC Tryz.prog 277:=⟨qd Tryz.func277 rfl rfl⟩
instance en278:EnC Tryz.prog 278:=⟨qd Tryz.func278 rfl rfl⟩
instance en279:EnC Tryz.prog 279:=⟨qd Tryz.func279 rfl rfl⟩
instance en280:EnC Tryz.prog 280:=⟨qd Tryz.func280 rfl rfl⟩
instance en281:EnC Tryz.prog 281:=⟨qd Tryz.func281 rfl rfl⟩
instance en284:EnC Tryz.prog 284:=⟨qd Tryz.func284 rfl rfl⟩
instance en285:EnC Tryz.prog 285:=⟨qd Tryz.func285 rfl rfl⟩
instance en286:EnC Tryz.prog 286:=⟨qd Tryz.func286 rfl rfl⟩
instance en287:EnC Tryz.prog 287:=⟨qd Tryz.func287 rfl rfl⟩
theorem ent288:Enters Tryz.prog 288:=qd Tryz.func288 rfl rfl
instance en288:EnC Tryz.prog 288:=⟨ent288⟩
instance en289:EnC Tryz.prog 289:=⟨qd Tryz.func289 rfl rfl⟩
instance en290:EnC Tryz.prog 290:=⟨qd Tryz.func290 rfl rfl⟩
instance en291:EnC Tryz.prog 291:=⟨qd Tryz.func291 rfl rfl⟩
instance en292:EnC Tryz.prog 292:=⟨qd Tryz.func292 rfl rfl⟩
instance en293:EnC Tryz.prog 293:=⟨qd Tryz.func293 rfl rfl⟩
instance en294:EnC Tryz.prog 294:=⟨qd Tryz.func294 rfl rfl⟩
instance en295:EnC Tryz.prog 295:=⟨qd Tryz.func295 rfl rfl⟩
instance en296:EnC Tryz.prog 296:=⟨qd Tryz.func296 rfl rfl⟩
instance en297:EnC Tryz.prog 297:=⟨qd Tryz.func297 rfl rfl⟩
instance en298:EnC Tryz.prog 298:=⟨qd Tryz.func298 rfl rfl⟩
instance en299:EnC Tryz.prog 299:=⟨qd Tryz.func299 rfl rfl⟩
instance en300:EnC Tryz.prog 300:=⟨qd Tryz.func300 rfl rfl⟩
instance en301:EnC Tryz.prog 301:=⟨qd Tryz.func301 rfl rfl⟩
instance en302:EnC Tryz.prog 302:=⟨qd Tryz.func302 rfl rfl⟩
instance en303:EnC Tryz.prog 303:=⟨qd Tryz.func303 rfl rfl⟩
theorem ent304:Enters Tryz.prog 304:=qd Tryz.func304 rfl rfl
instance en304:EnC Tryz.prog 304:=⟨ent304⟩
instance en305:EnC Tryz.prog 305:=⟨qd Tryz.func305 rfl rfl⟩
instance en306:EnC Tryz.prog 306:=⟨qd Tryz.func306 rfl rfl⟩
instance en307:EnC Tryz.prog 307:=⟨qd Tryz.func307 rfl rfl⟩
theorem qpo (v:Value)(w:World):(Instr.makeInterface 310 v).run Tryz.prog w=.ok (.iface 310 v) w:=by simp[Instr.makeInterface,run_underlying Tryz.underlying310]
abbrev lostCh:List PanicEntry:=[{ v:=.iface 310 (.agg #[]),recovered:=false }]
theorem qpn (p q:Addr):qjD Tryz.prog 243 #[.pointer (some p),.pointer (some q)]:=by
  intro w
  refine callsD_of_wpS Tryz.func243 rfl fun c₀ cs hu=>?_
  apply wpS_seq
  apply wpS_region
  simp[wpOpsS,go_sem,recoverD,hu,Tryz.ntmps243,Exit.thenS]
  refine wpS_of_wp ?_
  go_wp2
  cases c₀
  simp_all [bodyPostS,results,Tryz.results243]
theorem qny (w:World):(Instr.typeAssert (.iface 310 (.agg #[])) 20 310 true).run Tryz.prog w=.ok (.tuple #[.agg #[],.bool true]) w:=by
  simp[Instr.typeAssert,run_underlying Tryz.underlying310]
theorem eqn243 (x y:Operand)(w:World):(do eqGuard .eql 20 x y (.iface 310 (.agg #[])) .nilIface;binOp .eql 20 (.iface 310 (.agg #[])) .nilIface:Sem Value).run Tryz.prog w=.ok (.bool false) w:=by
  simp[go_sem]
set_option maxRecDepth 100000 in
theorem qht (g1 g2:Nat)(v1 v2:Value):qjE Tryz.prog 243 #[qsS g1,qsS g2] 310 (.agg #[]) [⟨g1,56,[v1]⟩,⟨g2,4,[v2]⟩] [⟨g1,56,[.slice none 0 0]⟩,⟨g2,4,[.bool false]⟩]:=by
  intro w hp
  refine callsD_of_wpS Tryz.func243 rfl fun c₀ cs hu=>?_
  apply wpS_seq
  apply wpS_region
  simp[wpOpsS,go_sem,recoverD,hu,Tryz.ntmps243,Exit.thenS]
  refine wpS_of_wp (qfL.1 ?_)
  refine (show SXC Tryz.prog none 11 [] (muts [⟨g1,56,[v1]⟩,⟨g2,4,[v2]⟩] []) w _ _ [(0,.pointer (some ⟨g1,0,none⟩)),(1,.pointer (some ⟨g2,0,none⟩)),(5,.iface 310 (.agg #[]))] [⟨g1,56,[v1]⟩,⟨g2,4,[v2]⟩] [] [] (some ()) () from ?_) rfl _ _ ⟨rfl,by simp,fun i v hv=>?_⟩ hp
  · refine qex ?_
    refine zZ ?_
    refine q9 ?_
    refine qlY rfl rfl rfl (eqn243 _ _) rfl ?_
    refine zB ?_
    refine zy ?_
    refine kD (b:=false) rfl (fun h=>by cases h) (fun _=>?_)
    refine zZ ?_
    refine q9 ?_
    refine qkT rfl rfl qny rfl ?_
    refine vE rfl rfl rfl rfl ?_
    refine vE rfl rfl rfl rfl ?_
    refine zB ?_
    refine zy ?_
    refine kD (b:=true) rfl (fun _=>?_) (fun h=>by cases h)
    refine zZ ?_
    refine q9 ?_
    refine qhU rfl tf310 rfl (fun g=>?_)
    refine kC (i:=0) rfl rfl rfl tf310 rfl rfl rfl rfl rfl ?_
    refine zB ?_
    refine zy ?_
    refine q9 ?_
    refine kC (i:=1) rfl rfl rfl tf56 rfl rfl rfl rfl rfl ?_
    refine kC (i:=2) rfl rfl rfl tf4 rfl rfl rfl rfl rfl ?_
    refine zB ?_
    refine qcr ?_
    intro _ a w' hf hp'
    exact ⟨hf.defers,_,rfl,_,results_none rfl _ _ _,rfl,rfl,hp'.pick (.cons 1 rfl (.cons 1 rfl .nil)) .nil (by simp)⟩
  · simp only[vy] at hv
    split at hv
    · rename_i h;subst h;simpa using hv
    · split at hv
      · rename_i h;subst h;simpa using hv
      · split at hv
        · rename_i h;subst h;simpa using hv
        · cases hv
theorem qmD (cb:Array Value):qky Tryz.prog 160 118 2 (fun l=>.agg l.toArray) cb :=
  qnJ fun _ _ enc hk h1 cf hO blk cap d w hc hH hb hsz hT=>Go.Proofs.AnyQ.slices_SortFunc_total Tryz.sortf160 2 tf63.run_isAgg tf63.run_size enc hk h1 cf hO 118 cb blk 0 cap d w ent118 hc hH hb hsz hT
instance un2:UnF Tryz.prog 2 (.int .i64):=⟨Tryz.underlying2⟩
instance un3:UnF Tryz.prog 3 (.int .i64):=⟨Tryz.underlying3⟩
instance un4:UnF Tryz.prog 4 .bool:=⟨Tryz.underlying4⟩
instance un5:UnF Tryz.prog 5 (.int .u8):=⟨Tryz.underlying5⟩
instance un9:UnF Tryz.prog 9 .string:=⟨Tryz.underlying9⟩
instance un22:UnF Tryz.prog 22 (.slice 56):=⟨Tryz.underlying22⟩
instance un39:UnF Tryz.prog 39 (.slice 9):=⟨Tryz.underlying39⟩
instance un41:UnF Tryz.prog 41 (.slice 5):=⟨Tryz.underlying41⟩
instance un56:UnF Tryz.prog 56 (.slice 3):=⟨Tryz.underlying56⟩
instance un58:UnF Tryz.prog 58 (.slice 63):=⟨Tryz.underlying58⟩
instance un119:UnF Tryz.prog 119 (.int .u64):=⟨Tryz.underlying119⟩
instance un196:UnF Tryz.prog 196 (.int .u64):=⟨Tryz.underlying196⟩
instance un199:UnF Tryz.prog 199 (.int .u32):=⟨Tryz.underlying199⟩
instance un204:UnF Tryz.prog 204 (.slice 209):=⟨Tryz.underlying204⟩
instance un211:UnF Tryz.prog 211 (.slice 119):=⟨Tryz.underlying211⟩
theorem stm (c:Nat)(q:List Nat){p:List Nat}{A:Prop}(h:Stp (q++p) A):Stp (c::p) A:=⟨h.go⟩
set_option maxRecDepth 100000 in
theorem au0 (p:List Nat){A B:Prop}(t:B→Stp p A:=by
  intro h
  repeat (first
    | exact stp0 h
    | (refine stc 0 ?_;refine stk (fun h=>zB h) ?_)
    | (refine stc 1 ?_;refine stk (fun h=>zZ h) ?_)
    | (refine stc 2 ?_;refine stk (fun h=>zy h) ?_)
    | (refine stc 3 ?_;refine stk (fun h=>zg rfl rfl rfl h) ?_)
    | (refine stc 4 ?_;refine stk (fun h=>q9 h) ?_)
    | (refine stc 5 ?_;refine stk (fun h=>kb rfl rfl rfl h) ?_)
    | (refine stc 6 ?_;refine qhA rfl rfl rfl (zt rfl) ?_)
    | (refine stc 7 ?_;refine stk (fun h=>qo1 rfl rfl rfl h) ?_)
    | (refine stc 8 ?_;refine stk (fun h=>qkS h) ?_)
    | (refine stc 9 ?_;refine stk (fun h=>zd rfl rfl inferInstance rfl h) ?_)
    | (refine stc 10 ?_;refine stk (fun h=>qhT rfl (And.left h) (And.right h)) ?_)
    | (refine stc 11 ?_;refine stk (fun h=>qfR h) ?_)
    | (refine stc 12 ?_;refine stk (fun h=>qn2 h) ?_)
    | (refine stc 13 ?_;refine qpu rfl (by kernel_rfl) rfl ?_)
    | (refine stc 14 ?_;refine stk (fun h=>qex h) ?_)
    | (refine stc 15 ?_;refine qhA rfl rfl rfl (zj rfl inferInstance) ?_)
    | (refine stc 16 ?_;refine stk (fun h=>qev (by kernel_rfl) h) ?_)
    | (refine stc 17 ?_;refine stk (fun h=>qhX h) ?_)
    | (refine stc 18 ?_;refine stk (fun h=>vE rfl rfl rfl rfl h) ?_)
    | (refine stc 19 ?_;refine qpt rfl rfl rfl ?_)
    | (refine stc 20 ?_;refine stk (fun h=>kC (i:=0) rfl rfl rfl inferInstance rfl rfl rfl rfl rfl h) ?_)
    | (refine stc 21 ?_;refine stk (fun h=>zP (i:=0) rfl rfl inferInstance rfl rfl (fun _=>rfl) rfl rfl h) ?_)
    | (refine stc 22 ?_;refine stk (fun h=>qpy rfl rfl rfl h) ?_)
    | (refine stc 23 ?_;refine stk (fun h=>qis rfl rfl rfl rfl h) ?_)
    | (refine stc 24 ?_;first
      | (refine sta 0 ?_;exact stz (qI ()))
      | (refine sta 1 ?_;exact stz (qn0))
      | (refine sta 2 ?_;refine stk (fun h=>qcr h) ?_)
      | (refine sta 3 ?_;refine stk (fun h=>qkW rfl rfl rfl rfl h) ?_)
      | (refine sta 4 ?_;refine stk (fun h=>qhU rfl inferInstance rfl h) ?_)
      | (refine sta 5 ?_;refine stk (fun h=>qo3 h) ?_)
      | (refine sta 6 ?_;refine stk (fun h=>qkV rfl UnF.u rfl rfl h) ?_)
      | (refine sta 7 ?_;refine stk (fun h=>ql3 (b:=true) rfl rfl rfl rfl h) ?_)
      | (refine sta 8 ?_;refine stk (fun h=>qoF h) ?_)
      | (refine sta 9 ?_;refine stk (fun h=>ql3 (b:=false) rfl rfl rfl rfl h) ?_)
      | (refine sta 10 ?_;refine stk (fun h=>zP (i:=0) rfl rfl inferInstance rfl rfl (by simp) rfl rfl h) ?_)
      | (refine sta 11 ?_;refine stk (fun h=>zR rfl rfl rfl h) ?_)
      | (refine sta 12 ?_;refine stk (fun h=>qlS h) ?_)
      | (refine sta 13 ?_;refine stk (fun h=>ql4 h) ?_)
      | (refine sta 14 ?_;refine qhz rfl rfl rfl (qM (i:=0) rfl inferInstance rfl rfl (fun _=>rfl) rfl) ?_)
      | (refine sta 15 ?_;refine stk (fun h=>qoE h) ?_))
    | (refine stc 25 ?_;first
      | (refine sta 0 ?_;refine stk (fun h=>qnk rfl rfl rfl rfl h) ?_)
      | (refine sta 1 ?_;refine stk (fun h=>qpJ rfl rfl rfl rfl h) ?_)
      | (refine sta 2 ?_;refine stk (fun h=>qfX (j:=0) rfl rfl inferInstance rfl rfl (fun _=>rfl) rfl rfl h) ?_)
      | (refine sta 3 ?_;refine stk (fun h=>qi (.cons 0 rfl .nil) (qf 0 rfl qh) h) ?_)
      | (refine sta 4 ?_;refine stk (fun h=>kC (i:=1) rfl rfl rfl inferInstance rfl rfl rfl rfl rfl h) ?_)
      | (refine sta 5 ?_;refine stk (fun h=>qnj rfl rfl rfl rfl h) ?_)
      | (refine sta 6 ?_;refine stk (fun h=>zP (i:=1) rfl rfl inferInstance rfl rfl (fun _=>rfl) rfl rfl h) ?_)
      | (refine sta 7 ?_;refine stk (fun h=>zP (i:=1) rfl rfl inferInstance rfl rfl (by simp) rfl rfl h) ?_)
      | (refine sta 8 ?_;refine stk (fun h=>qpK rfl rfl rfl h) ?_)
      | (refine sta 9 ?_;refine stk (fun h=>qdu Int (eI .i64) 3 1 h) ?_)
      | (refine sta 10 ?_;refine stk (fun h=>qnn rfl rfl rfl rfl h) ?_)
      | (refine sta 11 ?_;refine stk (fun h=>qoO rfl UnF.u UnF.u rfl rfl h) ?_)
      | (refine sta 12 ?_;refine stk (fun h=>qn1 h) ?_)
      | (refine sta 13 ?_;exact stz (qX ()))
      | (refine sta 14 ?_;refine stk (fun h=>qqm (And.left h) (And.right h)) ?_)
      | (refine sta 15 ?_;refine stk (fun h=>qdu Int (eI .u8) 5 1 h) ?_))
    | (refine stc 26 ?_;first
      | (refine sta 0 ?_;refine stk (fun h=>qoY (qu .i64) rfl UnF.u inferInstance rfl rfl rfl rfl rfl rfl rfl h) ?_)
      | (refine sta 1 ?_;refine stk (fun h=>zP (i:=2) rfl rfl inferInstance rfl rfl (fun _=>rfl) rfl rfl h) ?_)
      | (refine sta 2 ?_;refine stk (fun h=>yM (j:=0) (qu .i64) (by decide) rfl UnF.u inferInstance rfl rfl rfl rfl h) ?_)
      | (refine sta 3 ?_;refine stk (fun h=>qaC (j:=0) rfl UnF.u inferInstance rfl rfl rfl rfl h) ?_)
      | (refine sta 4 ?_;refine qhz rfl rfl rfl (qM (i:=1) rfl inferInstance rfl rfl (fun _=>rfl) rfl) ?_)
      | (refine sta 5 ?_;refine stk (fun h=>qpB rfl rfl rfl rfl h) ?_)
      | (refine sta 6 ?_;refine stk (fun h=>zP (i:=2) rfl rfl inferInstance rfl rfl (by simp) rfl rfl h) ?_)
      | (refine sta 7 ?_;refine stk (fun h=>qoG h) ?_)
      | (refine sta 8 ?_;exact stz (qb ((),())))
      | (refine sta 9 ?_;refine stk (fun h=>qdZ Int (eI .i64) 3 1 h) ?_)
      | (refine sta 10 ?_;refine stk (fun h=>qpA h) ?_)
      | (refine sta 11 ?_;refine stk (fun h=>qoW h) ?_)
      | (refine sta 12 ?_;refine stk (fun h=>qi (.cons 1 rfl .nil) (qf 0 rfl qh) h) ?_)
      | (refine sta 13 ?_;refine stk (fun h=>qi (.cons 2 rfl .nil) (qf 0 rfl qh) h) ?_)
      | (refine sta 14 ?_;refine stk (fun h=>qi (.cons 1 rfl (.cons 1 rfl .nil)) (qf 0 rfl qh) h) ?_)
      | (refine sta 15 ?_;refine stk (fun h=>qo5 (qsO) (qsP×Nat) eN56 rN56 56 1 h) ?_))
    | (refine stc 27 ?_;first
      | (refine sta 0 ?_;refine stk (fun h=>kC (i:=6) rfl rfl rfl inferInstance rfl rfl rfl rfl rfl h) ?_)
      | (refine sta 1 ?_;refine stk (fun h=>qgU (j:=0) qy (by decide) rfl UnF.u inferInstance rfl rfl rfl rfl h) ?_)
      | (refine sta 2 ?_;refine stk (fun h=>qhC rfl rfl rfl rfl rfl h) ?_)
      | (refine sta 3 ?_;refine stk (fun h=>qk qej h) ?_)
      | (refine sta 4 ?_;refine stk (fun h=>qkX rfl rfl rfl h) ?_)
      | (refine sta 5 ?_;refine stk (fun h=>kC (i:=2) rfl rfl rfl inferInstance rfl rfl rfl rfl rfl h) ?_)
      | (refine sta 6 ?_;refine stk (fun h=>qi (.cons 0 rfl (.cons 1 rfl .nil)) (qf 0 rfl (qeK 1 rfl qh)) h) ?_)
      | (refine sta 7 ?_;exact stz (qj4 (.cons 0 rfl .nil)))
      | (refine sta 8 ?_;refine stk (fun h=>qmI 0 rfl h) ?_)
      | (refine sta 9 ?_;refine stk (fun h=>qlR 0 qU rfl h) ?_)
      | (refine sta 10 ?_;refine stk (fun h=>qF qg3 h) ?_)
      | (refine sta 11 ?_;refine stk (fun h=>qpG rfl rfl rfl rfl h) ?_)
      | (refine sta 12 ?_;refine stk (fun h=>qbM Int (eI .i64) 3 1 h) ?_)
      | (refine sta 13 ?_;refine stk (fun h=>qjB rfl rfl rfl h) ?_)
      | (refine sta 14 ?_;refine stk (fun h=>qi (.cons 1 rfl .nil) (qf 0 rfl (qf 1 rfl (qf 2 rfl qh))) h) ?_)
      | (refine sta 15 ?_;refine stk (fun h=>qi (.cons 1 rfl (.cons 1 rfl .nil)) (qf 0 rfl (qf 1 rfl (qf 2 rfl qh))) h) ?_))
    | (refine stc 28 ?_;first
      | (refine sta 0 ?_;refine stk (fun h=>qk qji h) ?_)
      | (refine sta 1 ?_;refine qhA rfl rfl rfl (qqt UnF.u rfl) ?_)
      | (refine sta 2 ?_;refine stk (fun h=>qdr (j:=1) (qu .i64) (by decide) rfl h) ?_)
      | (refine sta 3 ?_;refine stk (fun h=>qpC rfl rfl rfl rfl h) ?_)
      | (refine sta 4 ?_;refine stk (fun h=>qpv h) ?_)
      | (refine sta 5 ?_;refine stk (fun h=>qoH h) ?_)
      | (refine sta 6 ?_;refine stk (fun h=>qo2 h) ?_)
      | (refine sta 7 ?_;refine stk (fun h=>qpx rfl rfl rfl rfl h) ?_)
      | (refine sta 8 ?_;refine stk (fun h=>qpE rfl rfl rfl rfl h) ?_)
      | (refine sta 9 ?_;refine stk (fun h=>yM (j:=1) (qu .i64) (by decide) rfl UnF.u inferInstance rfl rfl rfl rfl h) ?_)
      | (refine sta 10 ?_;refine stk (fun h=>qk ql8 h) ?_)
      | (refine sta 11 ?_;refine stk (fun h=>qF qf4 h) ?_)
      | (refine sta 12 ?_;refine stk (fun h=>qoT rfl UnF.u rfl rfl rfl h) ?_)
      | (refine sta 13 ?_;refine stk (fun h=>qlU (j:=1) rfl h) ?_)
      | (refine sta 14 ?_;refine stk (fun h=>qfX (j:=0) rfl rfl inferInstance rfl rfl (by simp) rfl rfl h) ?_)
      | (refine sta 15 ?_;refine stk (fun h=>kC (i:=3) rfl rfl rfl inferInstance rfl rfl rfl rfl rfl h) ?_))
    | (refine stc 29 ?_;first
      | (refine sta 0 ?_;refine stk (fun h=>qdr (j:=2) (qu .i64) (by decide) rfl h) ?_)
      | (refine sta 1 ?_;refine stk (fun h=>qk qnt h) ?_)
      | (refine sta 2 ?_;refine qhz rfl rfl rfl (qM (i:=2) rfl inferInstance rfl rfl (fun _=>rfl) rfl) ?_)
      | (refine sta 3 ?_;refine stk (fun h=>qi (.cons 0 rfl (.cons 0 rfl (.cons 0 rfl (.cons 0 rfl (.cons 0 rfl .nil))))) (qf 0 rfl qh) h) ?_)
      | (refine sta 4 ?_;refine stk (fun h=>qdZ Int (eI .u8) 5 1 h) ?_)
      | (refine sta 5 ?_;refine stk (fun h=>kw 24 rfl (by kernel_rfl) (.cons 0 rfl (.cons 1 rfl .nil)) h) ?_)
      | (refine sta 6 ?_;refine stk (fun h=>qql (And.left h) (And.right h)) ?_)
      | (refine sta 7 ?_;refine stk (fun h=>qk qks h) ?_)
      | (refine sta 8 ?_;refine stk (fun h=>qpF (rin:=rN56) (y:=([]:qsO)) (q:=((none,0):qsP×Nat)) qy (by decide) qox rfl UnF.u inferInstance rfl rfl rfl rfl rfl rfl h) ?_)
      | (refine sta 9 ?_;refine stk (fun h=>qlU (j:=0) rfl h) ?_)
      | (refine sta 10 ?_;exact stz (qoL))
      | (refine sta 11 ?_;refine stk (fun h=>qdr (j:=0) (qu .i64) (by decide) rfl h) ?_)
      | (refine sta 12 ?_;refine stk (fun h=>jM (j:=0) rfl h) ?_)
      | (refine sta 13 ?_;refine stk (fun h=>zP (i:=3) rfl rfl inferInstance rfl rfl (fun _=>rfl) rfl rfl h) ?_)
      | (refine sta 14 ?_;refine stk (fun h=>qnP (And.left h) (And.right h)) ?_)
      | (refine sta 15 ?_;refine stk (fun h=>qk qkh h) ?_))
    | (refine stc 30 ?_;first
      | (refine sta 0 ?_;refine stk (fun h=>qi (.cons 1 rfl (.cons 1 rfl .nil)) (qf 0 rfl (qf 1 rfl (qf 2 rfl (qf 3 rfl qh)))) h) ?_)
      | (refine sta 1 ?_;refine stk (fun h=>qk qnu h) ?_)
      | (refine sta 2 ?_;refine stk (fun h=>qi (.cons 0 rfl (.cons 0 rfl .nil)) (qf 0 rfl qh) h) ?_)
      | (refine sta 3 ?_;refine stk (fun h=>qF qle h) ?_)
      | (refine sta 4 ?_;refine stk (fun h=>qfZ (i:=3) rfl h) ?_)
      | (refine sta 5 ?_;refine stk (fun h=>qk qie h) ?_)
      | (refine sta 6 ?_;refine stk (fun h=>qi (.cons 0 rfl (.cons 0 rfl .nil)) qh h) ?_)
      | (refine sta 7 ?_;refine stk (fun h=>qF qgu h) ?_)
      | (refine sta 8 ?_;refine stk (fun h=>qkZ rfl rfl rfl rfl rfl h) ?_)
      | (refine sta 9 ?_;refine stk (fun h=>zP (i:=3) rfl rfl inferInstance rfl rfl (by simp) rfl rfl h) ?_)
      | (refine sta 10 ?_;refine stk (fun h=>qF qk5 h) ?_)
      | (refine sta 11 ?_;refine stk (fun h=>qbM Int (eI .u8) 5 1 h) ?_)
      | (refine sta 12 ?_;refine stk (fun h=>qk qkl h) ?_)
      | (refine sta 13 ?_;refine stk (fun h=>qk qk6 h) ?_)
      | (refine sta 14 ?_;refine stk (fun h=>qk qd2 h) ?_)
      | (refine sta 15 ?_;refine stk (fun h=>qi (.cons 0 rfl .nil) (qf 0 rfl (qf 1 rfl qh)) h) ?_))
    | (refine stc 31 ?_;first
      | (refine sta 0 ?_;refine stk (fun h=>qi (.cons 0 rfl (.cons 0 rfl (.cons 0 rfl .nil))) (qf 0 rfl (qf 1 rfl (qf 2 rfl (qf 3 rfl qh)))) h) ?_)
      | (refine sta 1 ?_;refine stk (fun h=>qaC (j:=1) rfl UnF.u inferInstance rfl rfl rfl rfl h) ?_)
      | (refine sta 2 ?_;refine stk (fun h=>zu 0 (qu .i64) rfl UnF.u inferInstance rfl rfl rfl rfl rfl (.inr ⟨0,rfl⟩) rfl rfl h) ?_)
      | (refine sta 3 ?_;refine stk (fun h=>qk qez h) ?_)
      | (refine sta 4 ?_;refine stk (fun h=>qoU (j:=0) rfl UnF.u inferInstance rfl rfl rfl rfl h) ?_)
      | (refine sta 5 ?_;refine stk (fun h=>qF qfa h) ?_)
      | (refine sta 6 ?_;refine stk (fun h=>yM (j:=0) qb2 (by decide) rfl UnF.u inferInstance rfl rfl rfl rfl h) ?_)
      | (refine sta 7 ?_;refine stk (fun h=>qi .nil (qf 0 rfl (qf 1 rfl (qf 2 rfl (qeK 0 rfl qh)))) h) ?_)
      | (refine sta 8 ?_;refine stk (fun h=>qpL rfl rfl rfl rfl rfl h) ?_)
      | (refine sta 9 ?_;refine stk (fun h=>qk qg8 h) ?_)
      | (refine sta 10 ?_;refine stk (fun h=>qi .nil (qeK 0 rfl qh) h) ?_)
      | (refine sta 11 ?_;refine stk (fun h=>qk qb7 h) ?_)
      | (refine sta 12 ?_;refine qhz rfl rfl rfl (qM (i:=3) rfl inferInstance rfl rfl (fun _=>rfl) rfl) ?_)
      | (refine sta 13 ?_;refine stk (fun h=>yM (j:=0) qer (by decide) rfl UnF.u inferInstance rfl rfl rfl rfl h) ?_)
      | (refine sta 14 ?_;refine stk (fun h=>qoI h) ?_)
      | (refine sta 15 ?_;refine stk (fun h=>qF qme h) ?_))
    | (refine stc 32 ?_;first
      | (refine sta 0 ?_;refine stk (fun h=>qk qj9 h) ?_)
      | (refine sta 1 ?_;refine stk (fun h=>qgT 0 rfl h) ?_)
      | (refine sta 2 ?_;refine stk (fun h=>zW 0 _ rfl rfl rfl (zt rfl) rfl h) ?_)
      | (refine sta 3 ?_;refine stk (fun h=>zW 1 _ rfl rfl rfl (zt rfl) rfl h) ?_)
      | (refine sta 4 ?_;refine stk (fun h=>zW 2 _ rfl rfl rfl (zj rfl inferInstance) rfl h) ?_)
      | (refine sta 5 ?_;refine stk (fun h=>zW 4 _ rfl rfl rfl (zt rfl) rfl h) ?_)
      | (refine sta 6 ?_;refine stk (fun h=>qi (.cons 0 rfl (.cons 0 rfl (.cons 0 rfl (.cons 0 rfl .nil)))) (qf 0 rfl qh) h) ?_)
      | (refine sta 7 ?_;refine stk (fun h=>qi (.cons 0 rfl (.cons 0 rfl .nil)) (qf 0 rfl (qf 1 rfl qh)) h) ?_)
      | (refine sta 8 ?_;refine stk (fun h=>qk qkb h) ?_)
      | (refine sta 9 ?_;refine stk (fun h=>qk qj7 h) ?_)
      | (refine sta 10 ?_;refine stk (fun h=>qnU rfl UnF.u rfl rfl rfl h) ?_)
      | (refine sta 11 ?_;refine stk (fun h=>kD rfl (And.left h) (And.right h)) ?_)
      | (refine sta 12 ?_;refine stk (fun h=>qk qey h) ?_)
      | (refine sta 13 ?_;refine stk (fun h=>qnN 0 rfl h) ?_)
      | (refine sta 14 ?_;refine stk (fun h=>qF qd1 h) ?_)
      | (refine sta 15 ?_;refine stk (fun h=>qF qk8 h) ?_))
    | (refine stc 33 ?_;first
      | (refine sta 0 ?_;refine stk (fun h=>qF qf0 h) ?_)
      | (refine sta 1 ?_;refine stk (fun h=>qfZ (i:=2) rfl h) ?_)
      | (refine sta 2 ?_;refine stk (fun h=>qdZ (Int×Int) eS63 63 2 h) ?_)
      | (refine sta 3 ?_;refine stk (fun h=>qk qgY h) ?_)
      | (refine sta 4 ?_;refine stk (fun h=>qq (cells:=[]) rfl inferInstance rfl (by kernel_rfl) rfl h) ?_)
      | (refine sta 5 ?_;refine stk (fun h=>qF qbm h) ?_)
      | (refine sta 6 ?_;refine stk (fun h=>qF kf h) ?_)
      | (refine sta 7 ?_;refine stk (fun h=>qk qjh h) ?_)
      | (refine sta 8 ?_;refine stk (fun h=>qi (.cons 0 rfl .nil) (qf 0 rfl (qf 1 rfl (qf 2 rfl (qf 3 rfl qh)))) h) ?_)
      | (refine sta 9 ?_;refine qhA rfl rfl rfl (qpT UnF.u UnF.u rfl) ?_)
      | (refine sta 10 ?_;refine stk (fun h=>qF ql9 h) ?_)
      | (refine sta 11 ?_;refine stk (fun h=>qF qgX h) ?_)
      | (refine sta 12 ?_;refine stk (fun h=>qk qll h) ?_)
      | (refine sta 13 ?_;refine stk (fun h=>qk qld h) ?_)
      | (refine sta 14 ?_;refine stk (fun h=>kw 18 rfl (by kernel_rfl) (.cons 0 rfl .nil) h) ?_)
      | (refine sta 15 ?_;refine stk (fun h=>qk qhJ h) ?_))
    | (refine stc 34 ?_;first
      | (refine sta 0 ?_;refine stk (fun h=>qF qha h) ?_)
      | (refine sta 1 ?_;refine stk (fun h=>qk qgE h) ?_)
      | (refine sta 2 ?_;refine stk (fun h=>qfZ (i:=4) rfl h) ?_)
      | (refine sta 3 ?_;refine stk (fun h=>qfY rfl rfl rfl rfl rfl h) ?_)
      | (refine sta 4 ?_;refine stk (fun h=>qpM rfl rfl rfl rfl h) ?_)
      | (refine sta 5 ?_;refine stk (fun h=>qk qjt h) ?_)
      | (refine sta 6 ?_;refine stk (fun h=>qk qix h) ?_)
      | (refine sta 7 ?_;refine stk (fun h=>qi8 2 rfl h) ?_)
      | (refine sta 8 ?_;refine stk (fun h=>qk qmf h) ?_)
      | (refine sta 9 ?_;refine stk (fun h=>qF qgI h) ?_)
      | (refine sta 10 ?_;refine stk (fun h=>qk qlh h) ?_)
      | (refine sta 11 ?_;refine stk (fun h=>qi (.cons 0 rfl (.cons 0 rfl .nil)) (qf 0 rfl (qf 1 rfl (qf 2 rfl (qf 3 rfl qh)))) h) ?_)
      | (refine sta 12 ?_;refine stk (fun h=>qF qjk h) ?_)
      | (refine sta 13 ?_;refine stk (fun h=>qi (.cons 0 rfl .nil) (qf 0 rfl (qf 1 rfl (qf 2 rfl qh))) h) ?_)
      | (refine sta 14 ?_;refine stk (fun h=>qk qkg h) ?_)
      | (refine sta 15 ?_;refine stk (fun h=>qF qgz h) ?_))
    | (refine stc 35 ?_;first
      | (refine sta 0 ?_;refine stk (fun h=>qk qkf h) ?_)
      | (refine sta 1 ?_;refine stk (fun h=>qk qmd h) ?_)
      | (refine sta 2 ?_;refine stk (fun h=>qk qlg h) ?_)
      | (refine sta 3 ?_;refine stk (fun h=>qk qke h) ?_)
      | (refine sta 4 ?_;refine stk (fun h=>qdr (j:=0) (qu .u8) (by decide) rfl h) ?_)
      | (refine sta 5 ?_;refine stk (fun h=>qk qkv h) ?_)
      | (refine sta 6 ?_;refine stk (fun h=>qqn rfl rfl rfl rfl h) ?_)
      | (refine sta 7 ?_;refine stk (fun h=>qk qg4 h) ?_)
      | (refine sta 8 ?_;refine stk (fun h=>qni (j:=1) (qu .i64) rfl UnF.u inferInstance rfl rfl rfl rfl rfl h) ?_)
      | (refine sta 9 ?_;refine stk (fun h=>qk qik h) ?_)
      | (refine sta 10 ?_;refine stk (fun h=>qpz rfl UnF.u rfl rfl h) ?_)
      | (refine sta 11 ?_;refine stk (fun h=>qlX (i:=0) (qu .i64) rfl UnF.u inferInstance rfl rfl rfl rfl h) ?_)
      | (refine sta 12 ?_;refine stk (fun h=>qk qjp h) ?_)
      | (refine sta 13 ?_;refine stk (fun h=>qk qeh h) ?_)
      | (refine sta 14 ?_;refine stk (fun h=>zW 5 _ rfl rfl rfl (zt rfl) rfl h) ?_)
      | (refine sta 15 ?_;refine stk (fun h=>zW 6 _ rfl rfl rfl (zt rfl) rfl h) ?_))
    | (refine stc 36 ?_;first
      | (refine sta 0 ?_;refine stk (fun h=>zW 7 _ rfl rfl rfl (zt rfl) rfl h) ?_)
      | (refine sta 1 ?_;refine stk (fun h=>zW 8 _ rfl rfl rfl (zj rfl inferInstance) rfl h) ?_)
      | (refine sta 2 ?_;refine stk (fun h=>zW 11 _ rfl rfl rfl (zt rfl) rfl h) ?_)
      | (refine sta 3 ?_;refine stk (fun h=>zW 12 _ rfl rfl rfl (zt rfl) rfl h) ?_)
      | (refine sta 4 ?_;refine stk (fun h=>zW 18 _ rfl rfl rfl (zt rfl) rfl h) ?_)
      | (refine sta 5 ?_;refine stk (fun h=>qi (.cons 0 rfl (.cons 0 rfl (.cons 0 rfl (.cons 0 rfl (.cons 0 rfl .nil))))) (qf 0 rfl (qf 1 rfl qh)) h) ?_)
      | (refine sta 6 ?_;refine stk (fun h=>qk qhZ h) ?_)
      | (refine sta 7 ?_;refine stk (fun h=>qF qko h) ?_)
      | (refine sta 8 ?_;refine stk (fun h=>qk qnv h) ?_)
      | (refine sta 9 ?_;refine stk (fun h=>qk qlb h) ?_)
      | (refine sta 10 ?_;refine stk (fun h=>qk qjq h) ?_)
      | (refine sta 11 ?_;refine stk (fun h=>qF qg2 h) ?_)
      | (refine sta 12 ?_;refine stk (fun h=>qk qkx h) ?_)
      | (refine sta 13 ?_;refine stk (fun h=>qk qmk h) ?_)
      | (refine sta 14 ?_;refine stk (fun h=>yM (j:=2) (qu .i64) (by decide) rfl UnF.u inferInstance rfl rfl rfl rfl h) ?_)
      | (refine sta 15 ?_;refine stk (fun h=>qgU (j:=2) qy (by decide) rfl UnF.u inferInstance rfl rfl rfl rfl h) ?_))
    | (refine stc 37 ?_;first
      | (refine sta 0 ?_;refine stk (fun h=>qF qgw h) ?_)
      | (refine sta 1 ?_;refine stk (fun h=>qi (.cons 1 rfl (.cons 0 rfl (.cons 0 rfl .nil))) (qf 0 rfl (qf 1 rfl (qf 2 rfl (qf 3 rfl qh)))) h) ?_)
      | (refine sta 2 ?_;refine stk (fun h=>kw 13 rfl (by kernel_rfl) (.cons 1 rfl (.cons 1 rfl .nil)) h) ?_)
      | (refine sta 3 ?_;refine stk (fun h=>qk qmb h) ?_)
      | (refine sta 4 ?_;refine stk (fun h=>qi (.cons 1 rfl (.cons 1 rfl (.cons 1 rfl (.cons 1 rfl .nil)))) (qf 0 rfl (qf 1 rfl (qf 2 rfl qh))) h) ?_)
      | (refine sta 5 ?_;refine stk (fun h=>qF qgv h) ?_)
      | (refine sta 6 ?_;refine stk (fun h=>qk qk9 h) ?_)
      | (refine sta 7 ?_;refine stk (fun h=>qo0 (qsO) (qsP×Nat) eN56 rN56 56 1 h) ?_)
      | (refine sta 8 ?_;refine stk (fun h=>qk qk4 h) ?_))
    | apply stm 45 [0,2]
    | apply stm 46 [5,0,2]
    | apply stm 47 [1,4]
    | apply stm 48 [1,4,3]
    | apply stm 49 [5,0,2,8]
    | apply stm 50 [0,2,10]
    | apply stm 51 [0,24,1]
    | apply stm 52 [24,5,12]
    | apply stm 53 [24,12,17]
    | apply stm 54 [17,24,13]
    | apply stm 55 [24,11,9]
    | apply stm 56 [24,8,1,4]
    | apply stm 57 [11,2]
    | apply stm 58 [5,0,2,1,4,3]
    | apply stm 59 [24,15,1,4]
    | apply stm 60 [5,0,2,8,12]
    | apply stm 61 [7,7]
    | apply stm 62 [1,4,24,3]
    | apply stm 63 [24,2,2]
    | apply stm 64 [6,11,16]
    | apply stm 65 [7,7,7,7]
    | apply stm 66 [18,18]
    | apply stm 67 [6,6,6,7]
    | apply stm 68 [5,0,2,8,24,0]
    | apply stm 69 [6,0,6,1]
    | apply stm 70 [25,1,0,2,10]
    | apply stm 71 [5,0,2,1]
    | apply stm 72 [1,4,3,24,6]
    | apply stm 73 [24,12,17,17,24,13]
    | apply stm 74 [1,4,24,10]
    | apply stm 75 [0,25,3]
    | apply stm 76 [0,2,14]
    | apply stm 77 [5,0,2,8,12,24,0]
    | apply stm 78 [9,21]
    | apply stm 79 [6,8,13,10]
    | apply stm 80 [1,4,24,3,0,2]
    | apply stm 81 [25,0,24,9]
    | apply stm 82 [11,2,1]
    | apply stm 83 [11,2,1,14]
    | apply stm 84 [5,0,2,1,4]
    | apply stm 85 [5,0,2,1,1,4,3]
    | apply stm 86 [20,0]
    | apply stm 87 [1,4,3,3]
    | apply stm 88 [23,3]
    | apply stm 89 [9,25,6]
    | apply stm 90 [5,0,2,8,25,13]
    | apply stm 91 [24,3,0,2,10]
    | apply stm 92 [24,5,12,12]
    | apply stm 93 [3,18,18]
    | apply stm 94 [23,3,0]
    | apply stm 95 [1,4,24,3,0,2,1]
    | apply stm 96 [1,4,24,3,0,2,1,10]
    | apply stm 97 [6,0,6,1,6,2]
    | apply stm 98 [4,23,3,0]
    | apply stm 99 [24,2,2,4,23,3,0]
    | apply stm 100 [25,15,25,15]
    | apply stm 101 [6,12,6,13]
    | apply stm 102 [26,9,27,10]
    | apply stm 103 [25,12,27,7]
    | apply stm 104 [25,0,0,2,10]
    | apply stm 105 [13,9,24,4]
    | apply stm 106 [24,7,0]
    | apply stm 107 [5,0,2,8,12,25,9]
    | apply stm 108 [24,5,12,24,0]
    | apply stm 109 [24,9,0]
    | apply stm 110 [9,24,10]
    | apply stm 111 [26,7,1,4]
    | apply stm 112 [25,5,0,2,10]
    | apply stm 113 [13,10,20,0]
    | apply stm 114 [24,11,9,21]
    | apply stm 115 [11,2,1,4]
    | apply stm 116 [27,8,27,9]
    | apply stm 117 [15,0,24,14,1]
    | apply stm 118 [24,8,1,4,22]
    | apply stm 119 [20,0,2]
    | apply stm 120 [25,4,0]
    | apply stm 121 [5,26,11]
    | apply stm 122 [24,6,3]
    | apply stm 123 [0,25,3,13,10])):Stv p B A:=⟨fun h=>(t h).go⟩
theorem au (p:List Nat){A B:Prop}(h:B)(t:Stv p B A:=by exact au0 _):A:=t.go h
theorem av (p:List Nat){A B C:Prop}(h:B)(k:C)(t:Stv p (B∧C) A:=by exact au0 _):A:=t.go ⟨h,k⟩
theorem az (p:List Nat){A:Prop}(t:Stv p True A:=by exact au0 _):A:=t.go trivial
set_option maxHeartbeats 4000000 in
theorem qji {F:Nat}{x1:List (qsO)}{a2:qsP}{c3:Nat}{s3:List (qsP×Nat)}{r:Int}(hm:kd F x1=some r) :
    Pure Tryz.prog 20 [.agg #[qsR a2 x1 c3]] [SlN eN56 iN56 1 (qsR a2 x1 c3) x1 s3] Unit (fun _=>qsQ r) (fun _=>[]) (fun _=>[]):=by
 refine qs Tryz.func20 rfl Tryz.ntmps20 rfl hm (fun w=>?_)
 refine au [59,22] ?_
 intro g4
 refine av [84,78,24,6,85,104] ?_ ?_
 intro _
 exact az [47,77]
 intro _
 refine au [115,46] ?_
 refine qj (fun ((x0,_):(Int×Unit))=>([(4,qsQ x0)],[],[],[],qa0 F x0)) ?_ ?_
 refine au [47,78,122,76] ?_
 refine qB (fun (((x2,x3),_):((Int×Int)×Unit))=>([(3,qsQ (x1.length:Int)),(4,qsQ x2),(16,qsR a2 x1 c3),(17,qsQ (x1.length:Int)),(18,qsQ x3)],[],[],[SlN eN56 iN56 1 (qsR a2 x1 c3) x1 s3])) (fun k (s:((Int×Int)×Unit))=>zq F x1 k s.1) ((0,0),()) F ?_
 intro k0
 rintro ⟨⟨x2,x3⟩,_⟩
 try dsimp only
 refine qH (m':=jm F x1 (zq F x1 k0) x2 x3) rfl ?_
 refine av [96] ?_ ?_
 intro _
 refine au [57] ?_
 refine qj (fun ((x4,_):(Int×Unit))=>([(3,qsQ (x1.length:Int)),(4,qsQ x4),(16,qsR a2 x1 c3),(17,qsQ (x1.length:Int)),(18,qsQ x3)],[],[],[SlN eN56 iN56 1 (qsR a2 x1 c3) x1 s3],qa1 F (zq F x1 k0) x3 x4)) ?_ ?_
 refine au [14,47,27,1] ?_
 intro x5 e0 g0 b0 o0
 refine au [25,2,84,46] ?_
 refine qj (fun ((_,_):(Unit×Unit))=>([(3,qsQ (x1.length:Int)),(4,qsQ x2),(6,qsR g0.1 x5 g0.2),(16,qsR a2 x1 c3),(17,qsQ (x1.length:Int)),(18,qsQ x3)],[],[],[qsT g0.1 x5 g0.2,SlN eN56 iN56 1 (qsR a2 x1 c3) x1 s3],jo F (zq F x1 k0) x2 x3 x5)) ?_ ?_
 refine au [72,3,76] ?_
 refine qB (fun (((x6,x7),_):((Int×Int)×Unit))=>([(3,qsQ (x1.length:Int)),(4,qsQ x2),(6,qsR g0.1 x5 g0.2),(7,qsQ x6),(16,qsR a2 x1 c3),(17,qsQ (x1.length:Int)),(18,qsQ x3),(22,qsR g0.1 x5 g0.2),(23,qsQ (x5.length:Int)),(24,qsQ x7)],[],[],[qsT g0.1 x5 g0.2,SlN eN56 iN56 1 (qsR a2 x1 c3) x1 s3])) (fun k (s:((Int×Int)×Unit))=>ym F (zq F x1 k0) x1 x2 x3 x5 k s.1) ((-1,0),()) F ?_
 intro k1
 rintro ⟨⟨x6,x7⟩,_⟩
 try dsimp only
 refine qH (m':=jn F (zq F x1 k0) x1 x2 x3 x5 (ym F (zq F x1 k0) x1 x2 x3 x5 k1) x6 x7) rfl ?_
 refine av [96] ?_ ?_
 intro _
 refine au [83,47,26,2] ?_
 intro x8 e1 b1 o1
 refine au [25,2,71,14,48,24,3,3] ?_
 refine qO 4 (decide (x8<0)) [(3,qsQ (x1.length:Int)),(4,qsQ x2),(6,qsR g0.1 x5 g0.2),(7,qsQ x6),(16,qsR a2 x1 c3),(17,qsQ (x1.length:Int)),(18,qsQ x3),(22,qsR g0.1 x5 g0.2),(23,qsQ (x5.length:Int)),(24,qsQ x7),(9,qsQ x8),(35,.bool ((decide (x8<0)) || (decide ((x1.length:Int)≤x8))))] (fun h0=>?_) (fun h0=>?_) ?_
 refine qc (os:=_) rfl (qA (k:=31) rfl h0 ?_)
 refine au [61,7,24,7] ?_
 refine qa (d:=35) (v:=.bool ((decide (x8<0)) || (decide ((x1.length:Int)≤x8)))) rfl (by rw[h0];simp only[qqU]) ?_
 exact az [51]
 refine qc (os:=_) rfl (qz (k:=31) rfl h0 ?_)
 refine au [3,3,26,5,24,9] ?_
 refine qa (d:=35) (v:=.bool ((decide (x8<0)) || (decide ((x1.length:Int)≤x8)))) rfl (by rw[h0];simp only[qqT]) ?_
 exact az [51]
 refine qc (os:=_) rfl ?_
 refine av [46,10] ?_ ?_
 intro _
 exact az [47,49,52,92,52,92,108]
 intro _
 refine av [87,28,3,46,10] ?_ ?_
 intro _
 exact az [47,49,52,92,52,92,108]
 intro _
 refine au [11,63,4,3,5,0,99] ?_
 exact qr ((x8,iadd .i64 x7 1),())
 intro _
 exact az [73,26,8]
 rintro ⟨_,_⟩
 try dsimp only
 refine au [4,3,3,24,6,23,5,0,24,2] ?_
 exact qb (iadd .i64 x2 (x5.length:Int),())
 rintro ⟨x4,_⟩
 try dsimp only
 refine au [98] ?_
 exact qr ((x4,iadd .i64 x3 1),())
 intro _
 refine au [73] ?_
 exact qb (x2,())
 rintro ⟨x0,_⟩
 try dsimp only
 refine av [1,48,104] ?_ ?_
 intro _
 exact az [47,77]
 intro _
 exact az [115,68]
set_option maxHeartbeats 4000000 in
theorem qks {F:Nat}{x1:Int}{x2:Int}{x3:Int}{r:Int}(hm:yC F x1 x2 x3=some r) :
    Pure Tryz.prog 21 [.agg #[qsQ x1,qsQ x2,qsQ x3]] [] Unit (fun _=>qsQ r) (fun _=>[]) (fun _=>[]):=by
 refine qs Tryz.func21 rfl Tryz.ntmps21 rfl hm (fun w=>?_)
 refine au [59,22] ?_
 intro g4
 refine au [71,47,78,24,3,3] ?_
 refine qO 4 (decide (x1<0)) [(1,qsS g4),(10,.bool ((decide (x1<0)) || (decide (7<x1))))] (fun h12=>?_) (fun h12=>?_) ?_
 refine qc (os:=_) rfl (qA (k:=6) rfl h12 ?_)
 refine au [61,7,24,7] ?_
 refine qa (d:=10) (v:=.bool ((decide (x1<0)) || (decide (7<x1)))) rfl (by rw[h12];simp only[qqU]) ?_
 exact az [51]
 refine qc (os:=_) rfl (qz (k:=6) rfl h12 ?_)
 refine au [78,81] ?_
 refine qa (d:=10) (v:=.bool ((decide (x1<0)) || (decide (7<x1)))) rfl (by rw[h12];simp only[qqT]) ?_
 exact az [51]
 refine qc (os:=_) rfl ?_
 refine au [3] ?_
 refine qO 4 ((decide (x1<0)) || (decide (7<x1))) [(1,qsS g4),(15,.bool (((decide (x1<0)) || (decide (7<x1))) || (decide (x2<0))))] (fun h13=>?_) (fun h13=>?_) ?_
 refine qc (os:=_) rfl (qA (k:=11) rfl h13 ?_)
 refine au [61,7,24,7] ?_
 refine qa (d:=15) (v:=.bool (((decide (x1<0)) || (decide (7<x1))) || (decide (x2<0)))) rfl (by rw[h13];simp only[qqU]) ?_
 exact az [51]
 refine qc (os:=_) rfl (qz (k:=11) rfl h13 ?_)
 refine au [78,24,3,24,9] ?_
 refine qa (d:=15) (v:=.bool (((decide (x1<0)) || (decide (7<x1))) || (decide (x2<0)))) rfl (by rw[h13];simp only[qqT]) ?_
 exact az [51]
 refine qc (os:=_) rfl ?_
 refine au [3] ?_
 refine qO 4 (((decide (x1<0)) || (decide (7<x1))) || (decide (x2<0))) [(1,qsS g4),(20,.bool ((((decide (x1<0)) || (decide (7<x1))) || (decide (x2<0))) || ((x2:Int) == 1)))] (fun h14=>?_) (fun h14=>?_) ?_
 refine qc (os:=_) rfl (qA (k:=16) rfl h14 ?_)
 refine au [61,7,24,7] ?_
 refine qa (d:=20) (v:=.bool ((((decide (x1<0)) || (decide (7<x1))) || (decide (x2<0))) || ((x2:Int) == 1))) rfl (by rw[h14];simp only[qqU]) ?_
 exact az [51]
 refine qc (os:=_) rfl (qz (k:=16) rfl h14 ?_)
 refine au [78,25,5,24,9] ?_
 refine qa (d:=20) (v:=.bool ((((decide (x1<0)) || (decide (7<x1))) || (decide (x2<0))) || ((x2:Int) == 1))) rfl (by rw[h14];simp only[qqT]) ?_
 exact az [51]
 refine qc (os:=_) rfl ?_
 refine au [3] ?_
 refine qO 4 ((((decide (x1<0)) || (decide (7<x1))) || (decide (x2<0))) || ((x2:Int) == 1)) [(1,qsS g4),(25,.bool (((((decide (x1<0)) || (decide (7<x1))) || (decide (x2<0))) || ((x2:Int) == 1)) || (decide (300<x2))))] (fun h15=>?_) (fun h15=>?_) ?_
 refine qc (os:=_) rfl (qA (k:=21) rfl h15 ?_)
 refine au [61,7,24,7] ?_
 refine qa (d:=25) (v:=.bool (((((decide (x1<0)) || (decide (7<x1))) || (decide (x2<0))) || ((x2:Int) == 1)) || (decide (300<x2)))) rfl (by rw[h15];simp only[qqU]) ?_
 exact az [51]
 refine qc (os:=_) rfl (qz (k:=21) rfl h15 ?_)
 refine au [78,81] ?_
 refine qa (d:=25) (v:=.bool (((((decide (x1<0)) || (decide (7<x1))) || (decide (x2<0))) || ((x2:Int) == 1)) || (decide (300<x2)))) rfl (by rw[h15];simp only[qqT]) ?_
 exact az [51]
 refine qc (os:=_) rfl ?_
 refine au [3] ?_
 refine qO 4 (((((decide (x1<0)) || (decide (7<x1))) || (decide (x2<0))) || ((x2:Int) == 1)) || (decide (300<x2))) [(1,qsS g4),(30,.bool ((((((decide (x1<0)) || (decide (7<x1))) || (decide (x2<0))) || ((x2:Int) == 1)) || (decide (300<x2))) || (decide (x3<1))))] (fun h16=>?_) (fun h16=>?_) ?_
 refine qc (os:=_) rfl (qA (k:=26) rfl h16 ?_)
 refine au [61,7,24,7] ?_
 refine qa (d:=30) (v:=.bool ((((((decide (x1<0)) || (decide (7<x1))) || (decide (x2<0))) || ((x2:Int) == 1)) || (decide (300<x2))) || (decide (x3<1)))) rfl (by rw[h16];simp only[qqU]) ?_
 exact az [51]
 refine qc (os:=_) rfl (qz (k:=26) rfl h16 ?_)
 refine au [78,24,3,24,9] ?_
 refine qa (d:=30) (v:=.bool ((((((decide (x1<0)) || (decide (7<x1))) || (decide (x2<0))) || ((x2:Int) == 1)) || (decide (300<x2))) || (decide (x3<1)))) rfl (by rw[h16];simp only[qqT]) ?_
 exact az [51]
 refine qc (os:=_) rfl ?_
 refine au [3] ?_
 refine qO 4 ((((((decide (x1<0)) || (decide (7<x1))) || (decide (x2<0))) || ((x2:Int) == 1)) || (decide (300<x2))) || (decide (x3<1))) [(35,.bool (((((((decide (x1<0)) || (decide (7<x1))) || (decide (x2<0))) || ((x2:Int) == 1)) || (decide (300<x2))) || (decide (x3<1))) || (decide (16<x3))))] (fun h17=>?_) (fun h17=>?_) ?_
 refine qc (os:=_) rfl (qA (k:=31) rfl h17 ?_)
 refine au [61,7,24,7] ?_
 refine qa (d:=35) (v:=.bool (((((((decide (x1<0)) || (decide (7<x1))) || (decide (x2<0))) || ((x2:Int) == 1)) || (decide (300<x2))) || (decide (x3<1))) || (decide (16<x3)))) rfl (by rw[h17];simp only[qqU]) ?_
 exact az [51]
 refine qc (os:=_) rfl (qz (k:=31) rfl h17 ?_)
 refine au [78,81] ?_
 refine qa (d:=35) (v:=.bool (((((((decide (x1<0)) || (decide (7<x1))) || (decide (x2<0))) || ((x2:Int) == 1)) || (decide (300<x2))) || (decide (x3<1))) || (decide (16<x3)))) rfl (by rw[h17];simp only[qqT]) ?_
 exact az [51]
 refine qc (os:=_) rfl ?_
 refine av [50] ?_ ?_
 intro _
 exact az [47,77]
 intro _
 exact az [115,68]
theorem qkb {F:Nat}{x1:List (qsO)}{a2:qsP}{c3:Nat}{s3:List (qsP×Nat)}{x4:Int}{x5:Int}{x6:Int}{r:Int}(hm:ya F x1 x4 x5 x6=some r) :
    Pure Tryz.prog 13 [.agg #[qsR a2 x1 c3,qsQ x4,qsQ x5,qsQ x6]] [SlN eN56 iN56 1 (qsR a2 x1 c3) x1 s3] Unit (fun _=>qsQ r) (fun _=>[]) (fun _=>[]):=by
 refine qs Tryz.func13 rfl Tryz.ntmps13 rfl hm (fun w=>?_)
 refine au [59,22] ?_
 intro g7
 refine au [71,47,110,28,0] ?_
 intro x10 e10 _
 refine av [58,70] ?_ ?_
 intro _
 exact az [48,77]
 intro _
 refine au [115,110,29,7] ?_
 intro x11 e11 _
 exact az [68]
theorem qey {F:Nat}{x1:qsO}{a2:qsP}{c3:Nat}{r:qsO}(hm:yB F x1=some r) :
    Pure Tryz.prog 46 [qsR a2 x1 c3] [qsT a2 x1 c3] (qsP×Nat) (fun g=>qsR g.1 r g.2) (fun g=>[qsU g.1 r g.2]) (fun _=>[]):=by
 refine qs Tryz.func46 rfl Tryz.ntmps46 rfl hm (fun w=>?_)
 refine av [59,85,32,10,45,32,11] ?_ ?_
 intro h11
 refine qlV 0 (qu .i64) (by decide) rfl h11 (fun h12=>?_)
 subst h12
 refine qH (m':=some ([]:qsO)) rfl ?_
 refine au [47,107] ?_
 exact qI (none,0)
 intro _
 refine au [115] ?_
 refine qV (vs:=[]) (ys:=([]:qsO)) (qu .i64) (by decide) rfl UnF.u inferInstance rfl rfl rfl rfl rfl (by decide) ?_
 intro a6 c7
 refine au [3,31,2] ?_
 intro x8 e8 a9 c10
 refine au [49] ?_
 exact qI (a9,c10)
set_option maxHeartbeats 4000000 in
theorem qmb {F:Nat}{x1:List (qsO)}{a2:qsP}{c3:Nat}{s3:List (qsP×Nat)}{x4:Int}{x5:Int}{x6:Int}{r:(List (qsO)×Int×Int×Int)}(hm:qc1 F x1 x4 x5 x6=some r) :
    Pure Tryz.prog 23 [.agg #[qsR a2 x1 c3,qsQ x4,qsQ x5,qsQ x6]] [SlN eN56 iN56 1 (qsR a2 x1 c3) x1 s3] (qsP×(Nat×List (qsP×Nat))) (fun g=>.agg #[qsR g.1 r.1 g.2.1,qsQ r.2.1,qsQ r.2.2.1,qsQ r.2.2.2]) (fun g=>[RoN eN56 rN56 56 1 (qsR g.1 r.1 g.2.1) r.1 g.2.2 []]) (fun _=>[]):=by
 refine qs Tryz.func23 rfl Tryz.ntmps23 rfl hm (fun w=>?_)
 refine au [59,22] ?_
 intro g7
 refine au [24,4] ?_
 intro g8
 refine au [45] ?_
 refine qj (fun ((x20,(g17,a18,c19)):(List (qsO)×(Nat×qsP×(Nat×List (qsP×Nat)))))=>([(1,qsS g7),(2,qsS g8),(3,qsS g17)],[⟨g8,28,[.slice none 0 0,qsQ 0,qsQ 0,qsQ 0]⟩,⟨g7,28,[qsR a2 x1 c3,qsQ x4,qsQ x5,qsQ x6]⟩,⟨g17,28,[qsR a18 x20 c19.1,qsQ x4,qsQ x5,qsQ x6]⟩],[RoN eN56 rN56 56 1 (qsR a18 x20 c19.1) x20 c19.2 []],[SlN eN56 iN56 1 (qsR a2 x1 c3) x1 s3],qbU F x1 x4 x5 x6 x20)) ?_ ?_
 refine qt mixed [] [⟨g8,28,[.slice none 0 0,qsQ 0,qsQ 0,qsQ 0]⟩,⟨g7,28,[qsR a2 x1 c3,qsQ x4,qsQ x5,qsQ x6]⟩] [SlN eN56 iN56 1 (qsR a2 x1 c3) x1 s3] (.cons 0 rfl (.cons 0 rfl .nil)) (qf 0 rfl qh) 11 rfl ?_
 refine au [15,0,15,1,26,4,2,28,1,3,15,6] ?_
 refine qN 7 (.agg #[qsQ x4,qsQ x5,qsQ x6]) rfl rfl rfl (qM (i:=1) rfl tf26 rfl rfl (by simp) rfl) (ye 4 9 rfl rfl (by kernel_rfl) rfl rfl ?_ ?_)
 refine au [29,8] ?_
 intro x0 e0 a0 c0
 refine au [0,30,2] ?_
 refine qe 5 (.agg #[qsR a0 x0 c0]) rfl rfl rfl (qbj (cells:=[qsR a0 x0 c0]) st24 rfl (by kernel_rfl)) (qe 8 (.agg #[qsR a0 x0 c0,qsQ x4,qsQ x5,qsQ x6]) rfl rfl rfl (qbj (cells:=[qsR a0 x0 c0,qsQ x4,qsQ x5,qsQ x6]) st28 rfl (by kernel_rfl)) ?_)
 refine au [105] ?_
 intro g0
 refine au [0,26,14,113,26,14,16] ?_
 exact qm (qb (x0,(g0,a0,(c0,(qqF x0.length ((none,0):qsP×Nat)))))) (by intro c h;cases h)
 refine kz (m':=((mk 4398046511104 (([]:qsO):qsO) (x1.length:Int)).bind fun x2=>qbU F x1 x4 x5 x6 x2)) (rfl) ?_
 refine au [24,4] ?_
 intro g1
 refine au [0,26,14,13,4,29,8] ?_
 intro x2 e1 a1 c1
 refine au [0,26,14] ?_
 refine qe 5 (.agg #[qsR a1 x2 c1]) rfl rfl rfl (qbj (cells:=[qsR a1 x2 c1]) st24 rfl (by kernel_rfl)) (qe 8 (.agg #[qsR a1 x2 c1,qsQ x4,qsQ x5,qsQ x6]) rfl rfl rfl (qbj (cells:=[qsR a1 x2 c1,qsQ x4,qsQ x5,qsQ x6]) st28 rfl (by kernel_rfl)) ?_)
 refine au [113,26,14,16] ?_
 exact qm (qb (x2,(g1,a1,(c1,(qqF x2.length ((none,0):qsP×Nat)))))) (by intro c h;cases h)
 rintro ⟨x20,⟨g17,a18,c19⟩⟩
 try dsimp only
 refine qj (fun ((x3,g2):(List (qsO)×List (qsP×Nat)))=>([(2,qsS g8),(3,qsS g17)],[⟨g8,28,[.slice none 0 0,qsQ 0,qsQ 0,qsQ 0]⟩,⟨g17,28,[qsR a18 x3 c19.1,qsQ x4,qsQ x5,qsQ x6]⟩],[RoN eN56 rN56 56 1 (qsR a18 x3 c19.1) x3 g2 []],[],qf8 F x4 x5 x6 x3)) ?_ ?_
 refine au [47,9,89,122,76] ?_
 refine qB (fun (((x7,x8),g3):((Int×List (qsO))×List (qsP×Nat)))=>([(2,qsS g8),(3,qsS g17),(17,qsR a2 x1 c3),(18,qsQ (x1.length:Int)),(19,qsQ x7)],[⟨g8,28,[.slice none 0 0,qsQ 0,qsQ 0,qsQ 0]⟩,⟨g17,28,[qsR a18 x8 c19.1,qsQ x4,qsQ x5,qsQ x6]⟩],[RoN eN56 rN56 56 1 (qsR a18 x8 c19.1) x8 g3 []],[SlN eN56 iN56 1 (qsR a2 x1 c3) x1 s3])) (fun k (s:((Int×List (qsO))×List (qsP×Nat)))=>vW F x1 x4 x5 x6 k s.1) ((0,x20),c19.2) F ?_
 intro k0
 rintro ⟨⟨x7,x8⟩,g3⟩
 try dsimp only
 refine qH (m':=qbT F x1 x4 x5 x6 (vW F x1 x4 x5 x6 k0) x7 x8) rfl ?_
 refine av [96] ?_ ?_
 intro _
 refine au [83,48,27,1] ?_
 intro x9 e2 g4 b0 o0
 refine au [25,2,5,46,29,9] ?_
 intro x10 e3 g5 h0 g6 h1
 replace h1:a18=some ⟨g6,0,none⟩:=h1
 have h2:=zE (k:=x8.length) (c:=c19.1) h1
 refine qcS (i:=0) rfl h0 (List.not_mem_nil) (qt mixed [] [⟨g8,28,[.slice none 0 0,qsQ 0,qsQ 0,qsQ 0]⟩,⟨g17,28,[qsR a18 x8 c19.1,qsQ x4,qsQ x5,qsQ x6]⟩] [qC b0 o0 (eN56 (x9,g4)),qsT g4.1 x9 g4.2,SlN eN56 iN56 1 (qsR a2 x1 c3) x1 s3] (.cons 0 rfl (.cons 0 rfl .nil)) (qf 0 rfl (qf 1 rfl (qf 2 rfl qh))) 8 rfl ?_)
 refine au [15,0,15,1,26,4,2,6,3,6,4,13,5,32,12] ?_
 rintro x11 e4 ⟨a3,c2⟩
 refine au [0] ?_
 refine qi (.cons 0 rfl (.cons 0 rfl .nil)) (qf 0 rfl (qf 1 rfl (qf 2 rfl qh))) (qg (d:=26) (v:=qsR (some ⟨g6,0,none⟩) x8 c19.1) rfl (by simp only[qsR,h1] <;> rfl) (qe 6 (.pointer (some ⟨g6,x7.toNat*1,none⟩)) rfl rfl rfl (zU Tryz.underlying22 tf56 rfl rfl (qo e3).1 (zf e3)) (qg (d:=26) (v:=qsR a18 x8 c19.1) rfl (by simp only[qsR,h1] <;> rfl) ?_)))
 refine au [13,7] ?_
 refine vi (j:=2) (kh:=0) (y':=x11) (q':=(a3,c2)) qy rfl rfl rfl tf56 rfl (zE h1) rfl (qo e3).2.1 rfl (.cons 0 rfl .nil) (fun x12 e5 h3 g9=>?_)
 have h4:x12.length=x8.length:=by rw[← e5,qqR]
 refine qa (d:=26) (v:=qsR a18 x12 c19.1) rfl (by simp only[qsR,h3] <;> rfl) (ze (i:=1) (cs':=[qsR a18 x12 c19.1,qsQ x4,qsQ x5,qsQ x6]) rfl (by simp only[qsR,h3] <;> rfl) ?_)
 refine au [0] ?_
 refine qi (.cons 0 rfl (.cons 0 (by simp only[qsR,h4] <;> rfl) .nil)) (qf 0 rfl (qf 1 rfl (qf 2 rfl qh))) ?_
 refine au [16] ?_
 refine qm ?_ (by intro c h;cases h)
 refine au [99] ?_
 exact qr ((iadd .i64 x7 1,x12),g9)
 intro _
 refine au [73] ?_
 exact qb (x8,g3)
 rintro ⟨x3,g2⟩
 try dsimp only
 refine au [47,25,7,119,8] ?_
 exact qS (a18,(c19.1,g2)) (resL (rs:=[.cell 2 28]) rfl (.cell (i:=0) rfl tf28 rfl rfl (by simp) rfl ResOk.nil) rfl) (fun h=>by subst h;exact (.cons 0 rfl .nil))
theorem qm0 {F:Nat}{x1:Int}{x2:Int}{r:(Int×Int)}(hm:qhe F x1 x2=some r) :
    Pure Tryz.prog 203 [.int .u32 x1,.int .u32 x2] [] Unit (fun _=>.tuple #[.int .u32 r.1,.int .u32 r.2]) (fun _=>[]) (fun _=>[]):=by
 refine qs Tryz.func203 rfl Tryz.ntmps203 rfl hm (fun w=>?_)
 refine au [56,5,58,25,11,3,25,11,27,11,121] ?_
 intro x3 e3
 refine qa (d:=6) (v:=.int .u64 x3) rfl (by simp only[qsR,e3] <;> rfl) ?_
 exact az [45,48,27,2,25,11,3,25,11,5,68]
theorem qg9 {F:Nat}{x1:Int}{x2:Int}{r:(Int×Int)}(hm:qdI F x1 x2=some r) :
    Pure Tryz.prog 204 [.int .u64 x1,.int .u64 x2] [] Unit (fun _=>.tuple #[.int .u64 r.1,.int .u64 r.2]) (fun _=>[]) (fun _=>[]):=by
 refine qs Tryz.func204 rfl Tryz.ntmps204 rfl hm (fun w=>?_)
 refine au [56,5,58,28,7,58,27,2,58,28,7,58,27,2,58,3,27,11,121] ?_
 intro x3 e3
 refine qa (d:=10) (v:=.int .u64 x3) rfl (by simp only[qsR,e3] <;> rfl) ?_
 refine au [45,87,27,11,3,27,2,23,121] ?_
 intro x4 e4
 refine qa (d:=11) (v:=.int .u64 x4) rfl (by simp only[qsR,e4] <;> rfl) ?_
 refine au [45,48,28,7,58,27,2,58,3,3,27,11,23,121] ?_
 intro x5 e5
 refine qa (d:=12) (v:=.int .u64 x5) rfl (by simp only[qsR,e5] <;> rfl) ?_
 refine au [45,87,27,11,3,88,27,2,23,121] ?_
 intro x6 e6
 refine qa (d:=4) (v:=.int .u64 x6) rfl (by simp only[qsR,e6] <;> rfl) ?_
 exact az [45,87,27,11,68]
theorem qih {F:Nat}{x1:Int}{x2:Int}{r:(Int×Int)}(hm:qao F x1 x2=some r) :
    Pure Tryz.prog 175 [.int .u64 x1,.int .u64 x2] [] Unit (fun _=>.tuple #[.int .u64 r.1,.int .u64 r.2]) (fun _=>[]) (fun _=>[]):=by
 refine qs Tryz.func175 rfl Tryz.ntmps175 rfl hm (fun w=>?_)
 refine au [56,5,71] ?_
 refine kD (b:=false) rfl (fun h=>by cases h) (fun _=>?_)
 refine au [57,87] ?_
 refine qk qg9 ?_
 intro x3 e3 _
 exact az [93,5,58,3,5,68]
set_option maxHeartbeats 4000000 in
theorem qej {F:Nat}{x1:qsO}{a2:qsP}{c3:Nat}{x4:Int}{r:qsO}(hm:ql F x1 x4=some r) :
    Pure Tryz.prog 131 [qsR a2 x1 c3,qsQ x4] [qsT a2 x1 c3] (qsP×Nat) (fun g=>qsR g.1 r g.2) (fun g=>[qsU g.1 r g.2]) (fun _=>[]):=by
 refine qs Tryz.func131 rfl Tryz.ntmps131 rfl hm (fun w=>?_)
 refine av [56,85,91] ?_ ?_
 intro _
 exact az [29,10]
 intro _
 refine au [57,72,25,11,3,25,11] ?_
 refine qk qih ?_
 intro x6 e6 _
 refine au [93,5,85,25,0,3] ?_
 refine qO 3 (decide (0<x6.1)) [(0,qsR a2 x1 c3),(6,.int .u64 x6.2),(26,.bool ((decide (0<x6.1)) || (decide (9223372036854775807<x6.2))))] (fun h9=>?_) (fun h9=>?_) ?_
 refine qc (os:=_) rfl (qA (k:=23) rfl h9 ?_)
 refine au [61,24,7] ?_
 refine qa (d:=26) (v:=.bool ((decide (0<x6.1)) || (decide (9223372036854775807<x6.2)))) rfl (by rw[h9];simp only[qqU]) ?_
 exact az [51]
 refine qc (os:=_) rfl (qz (k:=23) rfl h9 ?_)
 refine au [3,81] ?_
 refine qa (d:=26) (v:=.bool ((decide (0<x6.1)) || (decide (9223372036854775807<x6.2)))) rfl (by rw[h9];simp only[qqT]) ?_
 exact az [51]
 refine qc (os:=_) rfl ?_
 refine av [50] ?_ ?_
 intro _
 exact az [29,10]
 intro _
 refine au [57,48,25,11,26,0] ?_
 intro x10 e10 a11 c12
 refine au [58,3] ?_
 refine qnR (j:=0) (i:=0) (qu .i64) rfl UnF.u inferInstance rfl rfl rfl rfl rfl ?_
 intro x13 e13 h14
 have h15:x13.length=x10.length:=by rw[← e13];exact qcp (Nat.zero_le _)
 refine qa (d:=7) (v:=qsR a11 x13 c12) rfl (by simp only[qsR,h14] <;> rfl) (qa (d:=30) (v:=qsR a11 x13 c12) rfl (by simp only[qsR,h14] <;> rfl) (qa (d:=31) (v:=qsR a11 x13 c12) rfl (by simp only[qsR,h14] <;> rfl) ?_))
 refine au [46] ?_
 refine qj (fun ((x64,_):(qsO×Unit))=>([(7,qsR a11 x64 c12)],[],[qsU a11 x64 c12],[],yL F x64)) ?_ ?_
 refine au [14] ?_
 refine qB (fun (((x80,x81),_):((qsO×Int)×Unit))=>([(7,qsR a11 x80 c12),(8,qsQ x81)],[],[qsU a11 x80 c12],[])) (fun k (s:((qsO×Int)×Unit))=>zL F k s.1) ((x13,((min x1.length x10.length:Nat):Int)),()) F ?_
 intro k97
 rintro ⟨⟨x80,x81⟩,_⟩
 try dsimp only
 refine qH (m':=zK F (zL F k97) x80 x81) rfl ?_
 refine av [1,87,24,6,91] ?_ ?_
 intro _
 refine au [57,14,32,13] ?_
 intro x99 e99 a0 c0 h0 h1
 refine au [32,13] ?_
 intro x0 e0 a1 c1 h2 h3
 refine qt mixed [] [] [] .nil qh 10 rfl ?_
 refine au [97] ?_
 refine qe 3 (qsR a0 x99 c0) rfl rfl rfl (qaD Tryz.underlying56 tf3 rfl rfl rfl e99 h1 h0) ?_
 refine au [6,4,6,5] ?_
 refine qe 6 (qsR a1 x0 c1) rfl rfl rfl (qaD Tryz.underlying56 tf3 rfl rfl rfl e0 h3 h2) ?_
 refine au [13,7] ?_
 refine qnS (j:=0) (qu .i64) rfl Tryz.underlying56 tf3 e99 h0 e0 h2 rfl rfl rfl rfl (fun x2 e1 h4=>?_)
 have h5:x2.length=x80.length:=by rw[← e1];exact qcp (by have:=qbh e99;omega)
 refine qa (d:=7) (v:=qsR a11 x2 c12) rfl (by simp only[qsR,h4] <;> rfl) (qa (d:=35) (v:=qsR a11 x2 c12) rfl (by simp only[qsR,h4] <;> rfl) (qa (d:=39) (v:=qsR a11 x2 c12) rfl (by simp only[qsR,h4] <;> rfl) (qa (d:=42) (v:=qsR a11 x2 c12) rfl (by simp only[qsR,h4] <;> rfl) ?_)))
 refine au [0] ?_
 refine qi .nil qh ?_
 refine au [6,8,6,9,16] ?_
 refine qm ?_ (by intro c h;cases h)
 refine au [24,2] ?_
 exact qr ((x2,iadd .i64 x81 ((min x0.length x99.length:Nat):Int)),())
 intro _
 refine au [73] ?_
 exact qb (x80,())
 rintro ⟨x64,_⟩
 try dsimp only
 refine au [48,49] ?_
 exact qI (a11,c12)
theorem qez {F:Nat}{x1:qsO}{a2:qsP}{c3:Nat}{x4:Int}{r:Int}(hm:kQ F x1 x4=some r) :
    Pure Tryz.prog 85 [qsR a2 x1 c3,qsQ x4] [qsT a2 x1 c3] Unit (fun _=>qsQ r) (fun _=>[]) (fun _=>[]):=by
 refine qs Tryz.func85 rfl Tryz.ntmps85 rfl hm (fun w=>?_)
 refine au [56,46] ?_
 refine qj (fun ((_,_):(Unit×Unit))=>([],[],[],[],jX F)) ?_ ?_
 refine au [72,3,76] ?_
 refine qB (fun ((x47,_):(Int×Unit))=>([(0,qsR a2 x1 c3),(1,qsQ x4),(7,qsQ (x1.length:Int)),(8,qsQ x47)],[],[],[qsT a2 x1 c3])) (fun k (s:(Int×Unit))=>zO F x1 x4 k s.1) (0,()) F ?_
 intro k58
 rintro ⟨x47,_⟩
 try dsimp only
 refine qH (m':=kX F x1 x4 (zO F x1 x4 k58) x47) rfl ?_
 refine av [96] ?_ ?_
 intro _
 refine au [83,48,58,3,3,26,2] ?_
 intro x64 e64 b65 o66
 refine av [25,2,112] ?_ ?_
 intro _
 exact az [48,49,92,108]
 intro _
 refine au [11,99] ?_
 exact qr (iadd .i64 x47 1,())
 intro _
 exact az [73,26,8]
 rintro ⟨_,_⟩
 try dsimp only
 exact az [47,68]
set_option maxHeartbeats 4000000 in
theorem qff (F:Nat)(x1:qsO)(a2:qsP)(c3:Nat)(r:Int)(hm:qcj F x1=some r) :
    Pure Tryz.prog 205 [qsR a2 x1 c3] [qsT a2 x1 c3] Unit (fun _=>qsQ r) (fun _=>[]) (fun _=>[]):=by
 refine qs Tryz.func205 rfl Tryz.ntmps205 rfl hm (fun w=>?_)
 refine av [59,71,72,91] ?_ ?_
 intro _
 exact az [29,10]
 intro _
 refine au [57,48,26,2] ?_
 intro x5 e5 b6 o7
 refine au [25,2,46] ?_
 refine qj (fun ((x35,_):(Int×Unit))=>([(3,qsQ x35)],[],[],[],qaJ F x35)) ?_ ?_
 refine au [47,46,14] ?_
 refine qB (fun (((x44,x45),_):((Int×Int)×Unit))=>([(0,qsR a2 x1 c3),(3,qsQ x44),(4,qsQ x45)],[],[],[qsT a2 x1 c3])) (fun k (s:((Int×Int)×Unit))=>yp F x1 k s.1) ((x5,1),()) F ?_
 intro k54
 rintro ⟨⟨x44,x45⟩,_⟩
 try dsimp only
 refine qH (m':=qaI F x1 (yp F x1 k54) x44 x45) rfl ?_
 refine av [1,87,24,6,91] ?_ ?_
 intro _
 refine au [83,4,3,3,3,26,2] ?_
 intro x59 e59 b60 o61
 refine au [25,2,28,8,5,0,63,4,3,23,5,0] ?_
 exact qr ((imin x44 x59,iadd .i64 x45 1),())
 intro _
 refine au [73] ?_
 exact qb (x44,())
 rintro ⟨x35,_⟩
 try dsimp only
 exact az [48,68]
set_option maxHeartbeats 4000000 in
theorem qfb (F:Nat)(g1:Nat)(x2:List (qsO))(a3:qsP)(c4:(Nat×List (qsP×Nat)))(x5:qsO)(a6:qsP)(c7:Nat)(x8:qsO)(a9:qsP)(c10:Nat)(x11:qsO)(a12:qsP)(c13:Nat)(x14:qsO)(a15:qsP)(c16:Nat)(x17:Int)(x18:Int)(r:(qsO×qsO×qsO×qsO×Int))(hm:qbr F x2 x5 x8 x11 x14 x17 x18=some r) :
    PureM Tryz.prog 176 [qsS g1,qsQ x18] [⟨g1,183,[qsR a3 x2 c4.1,qsR a6 x5 c7,qsR a9 x8 c10,qsR a12 x11 c13,qsR a15 x14 c16,qsQ x17]⟩] [qsU a6 x5 c7,qsU a9 x8 c10,qsU a12 x11 c13,qsU a15 x14 c16] [SlN eN56 iN56 1 (qsR a3 x2 c4.1) x2 c4.2] ((qsP×Nat)×(qsP×Nat)×(qsP×Nat)×(qsP×Nat)) (fun _=>.tuple #[]) (fun g=>[⟨g1,183,[qsR a3 x2 c4.1,qsR g.1.1 r.1 g.1.2,qsR g.2.1.1 r.2.1 g.2.1.2,qsR g.2.2.1.1 r.2.2.1 g.2.2.1.2,qsR g.2.2.2.1 r.2.2.2.1 g.2.2.2.2,qsQ r.2.2.2.2]⟩]) (fun g=>[qsU g.1.1 r.1 g.1.2,qsU g.2.1.1 r.2.1 g.2.1.2,qsU g.2.2.1.1 r.2.2.1 g.2.2.1.2,qsU g.2.2.2.1 r.2.2.2.1 g.2.2.2.2]):=by
 refine qE Tryz.func176 rfl Tryz.ntmps176 rfl hm (fun w=>?_)
 refine au [24,8,48,114,3,31,3] ?_
 intro x19 e19 _
 refine au [58,114,3] ?_
 refine qoR (j:=2) rfl UnF.u inferInstance rfl rfl rfl rfl ?_
 intro h20 g21 h22
 refine au [58] ?_
 refine qa (d:=21) (v:=.slice (some ⟨g21,x19.toNat*1,none⟩) (x11.drop x19.toNat).length (c13-x19.toNat)) rfl (by rw[List.length_drop]) (yj ent205 rfl rfl rfl (fun x23 e23=>qff F (x11.drop x19.toNat) (some ⟨g21,x19.toNat*1,none⟩) (c13-x19.toNat) x23 e23) (.consG 2 rfl (qqr (qu .i64) h22 (by have:=h20;omega)) .nil) (fun x23 e23=>?_))
 intro _
 refine au [46] ?_
 refine qj (fun ((x75,_):(qsO×Unit))=>([(0,qsS g1),(4,qsQ x19)],[⟨g1,183,[qsR a3 x2 c4.1,qsR a6 x5 c7,qsR a9 x8 c10,qsR a12 x11 c13,qsR a15 x75 c16,qsQ x17]⟩],[qsU a6 x5 c7,qsU a9 x8 c10,qsU a12 x11 c13,qsU a15 x75 c16],[SlN eN56 iN56 1 (qsR a3 x2 c4.1) x2 c4.2],j4 F x5 x8 x11 x17 x19 x75)) ?_ ?_
 refine au [72,3,76] ?_
 refine qB (fun (((x93,x94),_):((Int×qsO)×Unit))=>([(0,qsS g1),(4,qsQ x19),(6,qsQ x23),(23,.slice (some ⟨g21,x19.toNat*1,none⟩) (x11.length-x19.toNat) (c13-x19.toNat)),(24,qsQ ((x11.length-x19.toNat:Nat):Int)),(25,qsQ x93)],[⟨g1,183,[qsR a3 x2 c4.1,qsR a6 x5 c7,qsR a9 x8 c10,qsR a12 x11 c13,qsR a15 x94 c16,qsQ x17]⟩],[qsU a6 x5 c7,qsU a9 x8 c10,qsU a12 x11 c13,qsU a15 x94 c16],[SlN eN56 iN56 1 (qsR a3 x2 c4.1) x2 c4.2])) (fun k (s:((Int×qsO)×Unit))=>yc F x5 x8 x11 x17 x19 x23 k s.1) ((0,x14),()) F ?_
 intro k0
 rintro ⟨⟨x93,x94⟩,_⟩
 try dsimp only
 refine qH (m':=j3 F x5 x8 x11 x17 x19 x23 (yc F x5 x8 x11 x17 x19 x23 k0) x93 x94) rfl ?_
 refine av [96] ?_ ?_
 intro _
 refine au [83,47] ?_
 refine qmP (xs:=x11) rfl rfl Tryz.underlying56 tf3 rfl rfl rfl (fun x0 e0=>qnY (j:=2) (qu .i64) rfl rfl tf3 rfl h22 e0 (fun _=>rfl) rfl rfl ?_)
 refine au [46,4,3,114,3,3] ?_
 refine qaC (j:=3) rfl UnF.u inferInstance rfl rfl rfl rfl ?_
 intro x1 e1 g0 h0
 refine zX (j:=3) (y':=x23) (qu .i64) rfl rfl rfl tf3 rfl h0 (qo e1).2.1 rfl (fun x3 e2 h1=>?_)
 have h2:x3.length=x94.length:=by rw[← e2,qqR]
 refine qa (d:=32) (v:=qsR a15 x3 c16) rfl h1 (ze (i:=0) (cs':=[qsR a3 x2 c4.1,qsR a6 x5 c7,qsR a9 x8 c10,qsR a12 x11 c13,qsR a15 x3 c16,qsQ x17]) rfl (by simp only[qsR,h1] <;> rfl) ?_)
 refine au [0,99] ?_
 exact qr ((iadd .i64 x93 1,x3),())
 intro _
 refine au [73] ?_
 exact qb (x94,())
 rintro ⟨x75,_⟩
 try dsimp only
 refine au [4,3,3,114,3] ?_
 refine qlX (i:=2) (qu .i64) rfl UnF.u inferInstance rfl rfl rfl rfl ?_
 intro x76 e76
 refine au [55,86] ?_
 exact qX ((a6,c7),(a9,c10),(a12,c13),(a15,c16))
end Go.Proofs.YthibchijlpflmaaGreatDoor
