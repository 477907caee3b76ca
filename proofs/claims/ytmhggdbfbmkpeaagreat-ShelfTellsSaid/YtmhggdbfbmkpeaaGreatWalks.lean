/- Each Go function of this seat computes what its model says. -/
import Derived.Test.YtmhggdbfbmkpeaaGreatRows
import Derived.Test.YtmhggdbfbmkpeaaGreatModels
import Derived.Test.YtmhggdbfbmkpeaaGreatShelf
open Bool renaming false_or→qxU, true_or→qx0
namespace Go.Proofs.YtmhggdbfbmkpeaaGreat
open Go SX
def eN39 (p:qAq×(qAr×Nat)):List Value:=[.slice p.2.1 p.1.length p.2.2]
def iN39 (p:qAq×(qAr×Nat)):List (World→Prop):=[Sl (eI .i64) 1 (.slice p.2.1 p.1.length p.2.2) p.1]
theorem vf:EncOk eN39 1:=⟨fun _=>rfl,fun _=>rfl⟩
def rN39 (p:qAq×(qAr×Nat)):List RowF:=[FoR (eI .i64) 3 1 (.slice p.2.1 p.1.length p.2.2) p.1]
theorem qvL:∀ p,iN39 p=(rN39 p).map RowF.cells:=fun _=>rfl
theorem qxp:∀ f∈rN39 (([]:qAq),((none,0):qAr×Nat)),f.v=.slice none 0 0∧f.n=0∧f.cs=[]:=by simp[rN39,FoR]
def eS189 (p:(Int×Int)):List Value:=[qAs p.1,qAs p.2]
theorem ku:EncOk eS189 2:=⟨fun _=>rfl,fun _=>rfl⟩
instance tf3:TyF Tryz.prog 3 false (qAs 0) 1 8:=.of (by kernel_rfl) (by kernel_rfl)
instance tf4:TyF Tryz.prog 4 false (.bool false) 1 1:=.of (by kernel_rfl) (by kernel_rfl)
instance tf5:TyF Tryz.prog 5 false (.int .u8 0) 1 1:=.of (by kernel_rfl) (by kernel_rfl)
instance tf22:TyF Tryz.prog 22 false (.slice none 0 0) 1 24:=.of (by kernel_rfl) (by kernel_rfl)
instance tf24:TyF Tryz.prog 24 true (.agg #[.slice none 0 0]) 1 24:=.of (by kernel_rfl) (by kernel_rfl)
instance tf26:TyF Tryz.prog 26 true (.agg #[qAs 0,qAs 0,qAs 0]) 3 24:=.of (by kernel_rfl) (by kernel_rfl)
instance tf27:TyF Tryz.prog 27 false (.slice none 0 0) 1 24:=.of (by kernel_rfl) (by kernel_rfl)
instance tf29:TyF Tryz.prog 29 true (.agg #[qAs 0,.slice none 0 0]) 2 32:=.of (by kernel_rfl) (by kernel_rfl)
instance tf31:TyF Tryz.prog 31 true (.agg #[qAs 0,qAs 0,qAs 0,qAs 0,qAs 0,.slice none 0 0]) 6 64:=.of (by kernel_rfl) (by kernel_rfl)
instance tf33:TyF Tryz.prog 33 true (.agg #[qAs 0,qAs 0,qAs 0,qAs 0,.slice none 0 0,qAs 0,.slice none 0 0]) 7 88:=.of (by kernel_rfl) (by kernel_rfl)
instance tf35:TyF Tryz.prog 35 true (.agg #[qAs 0,qAs 0,qAs 0,qAs 0,qAs 0,.slice none 0 0,qAs 0,qAs 0,qAs 0,qAs 0,.slice none 0 0,qAs 0,.slice none 0 0]) 13 152:=.of (by kernel_rfl) (by kernel_rfl)
instance tf39:TyF Tryz.prog 39 false (.slice none 0 0) 1 24:=.of (by kernel_rfl) (by kernel_rfl)
instance tf119:TyF Tryz.prog 119 false (.int .u64 0) 1 8:=.of (by kernel_rfl) (by kernel_rfl)
instance tf159:TyF Tryz.prog 159 true (.agg #[qAs 0,qAs 0,.slice none 0 0]) 3 40:=.of (by kernel_rfl) (by kernel_rfl)
instance tf174:TyF Tryz.prog 174 true (.agg #[]) 0 0:=.of (by kernel_rfl) (by kernel_rfl)
instance tf184:TyF Tryz.prog 184 false (.slice none 0 0) 1 24:=.of (by kernel_rfl) (by kernel_rfl)
instance tf189:TyF Tryz.prog 189 true (.agg #[qAs 0,qAs 0]) 2 16:=.of (by kernel_rfl) (by kernel_rfl)
instance tf209:TyF Tryz.prog 209 false (.pointer none) 1 8:=.of (by kernel_rfl) (by kernel_rfl)
instance ff24_0:FdF Tryz.prog 24 0 0:=.of (by kernel_rfl)
instance ff26_0:FdF Tryz.prog 26 0 0:=.of (by kernel_rfl)
instance ff26_1:FdF Tryz.prog 26 1 1:=.of (by kernel_rfl)
instance ff26_2:FdF Tryz.prog 26 2 2:=.of (by kernel_rfl)
instance ff29_0:FdF Tryz.prog 29 0 0:=.of (by kernel_rfl)
instance ff29_1:FdF Tryz.prog 29 1 1:=.of (by kernel_rfl)
instance ff31_0:FdF Tryz.prog 31 0 0:=.of (by kernel_rfl)
instance ff31_1:FdF Tryz.prog 31 1 1:=.of (by kernel_rfl)
instance ff31_2:FdF Tryz.prog 31 2 4:=.of (by kernel_rfl)
instance ff33_0:FdF Tryz.prog 33 0 0:=.of (by kernel_rfl)
instance ff33_1:FdF Tryz.prog 33 1 1:=.of (by kernel_rfl)
instance ff33_2:FdF Tryz.prog 33 2 2:=.of (by kernel_rfl)
instance ff33_3:FdF Tryz.prog 33 3 3:=.of (by kernel_rfl)
instance ff33_4:FdF Tryz.prog 33 4 5:=.of (by kernel_rfl)
instance ff35_0:FdF Tryz.prog 35 0 0:=.of (by kernel_rfl)
instance ff35_1:FdF Tryz.prog 35 1 6:=.of (by kernel_rfl)
instance ff64_0:FdF Tryz.prog 64 0 0:=.of (by kernel_rfl)
instance ff64_1:FdF Tryz.prog 64 1 13:=.of (by kernel_rfl)
instance ff104_0:FdF Tryz.prog 104 0 0:=.of (by kernel_rfl)
instance ff104_1:FdF Tryz.prog 104 1 6:=.of (by kernel_rfl)
instance ff104_2:FdF Tryz.prog 104 2 7:=.of (by kernel_rfl)
instance ff142_0:FdF Tryz.prog 142 0 0:=.of (by kernel_rfl)
instance ff142_1:FdF Tryz.prog 142 1 2:=.of (by kernel_rfl)
instance ff159_0:FdF Tryz.prog 159 0 0:=.of (by kernel_rfl)
instance ff159_1:FdF Tryz.prog 159 1 1:=.of (by kernel_rfl)
instance ff165_0:FdF Tryz.prog 165 0 0:=.of (by kernel_rfl)
instance ff165_1:FdF Tryz.prog 165 1 2:=.of (by kernel_rfl)
instance ff179_0:FdF Tryz.prog 179 0 0:=.of (by kernel_rfl)
instance ff179_1:FdF Tryz.prog 179 1 2:=.of (by kernel_rfl)
instance ff189_0:FdF Tryz.prog 189 0 0:=.of (by kernel_rfl)
instance ff189_1:FdF Tryz.prog 189 1 1:=.of (by kernel_rfl)
instance ff215_0:FdF Tryz.prog 215 0 0:=.of (by kernel_rfl)
instance ff248_0:FdF Tryz.prog 248 0 0:=.of (by kernel_rfl)
instance ff248_1:FdF Tryz.prog 248 1 1:=.of (by kernel_rfl)
instance ff254_0:FdF Tryz.prog 254 0 0:=.of (by kernel_rfl)
instance ff254_1:FdF Tryz.prog 254 1 1:=.of (by kernel_rfl)
instance ff254_2:FdF Tryz.prog 254 2 2:=.of (by kernel_rfl)
instance st24:StF Tryz.prog 24 [(0,1)] (.agg #[.slice none 0 0]):=.of (by kernel_rfl) (by kernel_rfl)
instance st26:StF Tryz.prog 26 [(0,1),(1,1),(2,1)] (.agg #[qAs 0,qAs 0,qAs 0]):=.of (by kernel_rfl) (by kernel_rfl)
instance st29:StF Tryz.prog 29 [(0,1),(1,1)] (.agg #[qAs 0,.slice none 0 0]):=.of (by kernel_rfl) (by kernel_rfl)
instance st31:StF Tryz.prog 31 [(0,1),(1,3),(4,2)] (.agg #[qAs 0,qAs 0,qAs 0,qAs 0,qAs 0,.slice none 0 0]):=.of (by kernel_rfl) (by kernel_rfl)
instance st33:StF Tryz.prog 33 [(0,1),(1,1),(2,1),(3,2),(5,2)] (.agg #[qAs 0,qAs 0,qAs 0,qAs 0,.slice none 0 0,qAs 0,.slice none 0 0]):=.of (by kernel_rfl) (by kernel_rfl)
instance st35:StF Tryz.prog 35 [(0,6),(6,7)] (.agg #[qAs 0,qAs 0,qAs 0,qAs 0,qAs 0,.slice none 0 0,qAs 0,qAs 0,qAs 0,qAs 0,.slice none 0 0,qAs 0,.slice none 0 0]):=.of (by kernel_rfl) (by kernel_rfl)
instance st64:StF Tryz.prog 64 [(0,13),(13,1)] (.agg #[qAs 0,qAs 0,qAs 0,qAs 0,qAs 0,.slice none 0 0,qAs 0,qAs 0,qAs 0,qAs 0,.slice none 0 0,qAs 0,.slice none 0 0,qAs 0]):=.of (by kernel_rfl) (by kernel_rfl)
instance st104:StF Tryz.prog 104 [(0,6),(6,1),(7,1)] (.agg #[qAs 0,qAs 0,qAs 0,qAs 0,qAs 0,.slice none 0 0,.slice none 0 0,.slice none 0 0]):=.of (by kernel_rfl) (by kernel_rfl)
instance st142:StF Tryz.prog 142 [(0,2),(2,1)] (.agg #[qAs 0,.slice none 0 0,qAs 0]):=.of (by kernel_rfl) (by kernel_rfl)
instance st159:StF Tryz.prog 159 [(0,1),(1,2)] (.agg #[qAs 0,qAs 0,.slice none 0 0]):=.of (by kernel_rfl) (by kernel_rfl)
instance st165:StF Tryz.prog 165 [(0,2),(2,1)] (.agg #[qAs 0,.slice none 0 0,qAs 0]):=.of (by kernel_rfl) (by kernel_rfl)
instance st174:StF Tryz.prog 174 [] (.agg #[]):=.of (by kernel_rfl) (by kernel_rfl)
instance st179:StF Tryz.prog 179 [(0,2),(2,1)] (.agg #[qAs 0,.slice none 0 0,.bool false]):=.of (by kernel_rfl) (by kernel_rfl)
instance st189:StF Tryz.prog 189 [(0,1),(1,1)] (.agg #[qAs 0,qAs 0]):=.of (by kernel_rfl) (by kernel_rfl)
instance st215:StF Tryz.prog 215 [(0,2)] (.agg #[qAs 0,.slice none 0 0]):=.of (by kernel_rfl) (by kernel_rfl)
instance st248:StF Tryz.prog 248 [(0,1),(1,1)] (.agg #[qAs 0,.bool false]):=.of (by kernel_rfl) (by kernel_rfl)
instance st254:StF Tryz.prog 254 [(0,1),(1,1),(2,1)] (.agg #[.slice none 0 0,.bool false,qAs 0]):=.of (by kernel_rfl) (by kernel_rfl)
instance se26:StE3 Tryz.prog 26 .i64 .i64 .i64:=⟨_,_,_,Tryz.underlying26,by kernel_rfl,by kernel_rfl,by decide,by decide,by decide,rfl,rfl,rfl,Tryz.underlying3,Tryz.underlying3,Tryz.underlying3⟩
theorem mixed:Tryz.prog.follows .mixedOrders=true:=by kernel_rfl
instance en8:EnC Tryz.prog 8:=⟨qe Tryz.func8 rfl rfl⟩
instance en9:EnC Tryz.prog 9:=⟨qe Tryz.func9 rfl rfl⟩
instance en10:EnC Tryz.prog 10:=⟨qe Tryz.func10 rfl rfl⟩
instance en11:EnC Tryz.prog 11:=⟨qe Tryz.func11 rfl rfl⟩
instance en12:EnC Tryz.prog 12:=⟨qe Tryz.func12 rfl rfl⟩
instance en13:EnC Tryz.prog 13:=⟨qe Tryz.func13 rfl rfl⟩
instance en14:EnC Tryz.prog 14:=⟨qe Tryz.func14 rfl rfl⟩
instance en15:EnC Tryz.prog 15:=⟨qe Tryz.func15 rfl rfl⟩
instance en16:EnC Tryz.prog 16:=⟨qe Tryz.func16 rfl rfl⟩
instance en17:EnC Tryz.prog 17:=⟨qe Tryz.func17 rfl rfl⟩
instance en18:EnC Tryz.prog 18:=⟨qe Tryz.func18 rfl rfl⟩
instance en20:EnC Tryz.prog 20:=⟨qe Tryz.func20 rfl rfl⟩
instance en23:EnC Tryz.prog 23:=⟨qe Tryz.func23 rfl rfl⟩
instance en24:EnC Tryz.prog 24:=⟨qe Tryz.func24 rfl rfl⟩
theorem ent25:Enters Tryz.prog 25:=qe Tryz.func25 rfl rfl
instance en25:EnC Tryz.prog 25:=⟨ent25⟩
instance en26:EnC Tryz.prog 26:=⟨qe Tryz.func26 rfl rfl⟩
instance en27:EnC Tryz.prog 27:=⟨qe Tryz.func27 rfl rfl⟩
instance en28:EnC Tryz.prog 28:=⟨qe Tryz.func28 rfl rfl⟩
instance en29:EnC Tryz.prog 29:=⟨qe Tryz.func29 rfl rfl⟩
instance en30:EnC Tryz.prog 30:=⟨qe Tryz.func30 rfl rfl⟩
instance en31:EnC Tryz.prog 31:=⟨qe Tryz.func31 rfl rfl⟩
instance en32:EnC Tryz.prog 32:=⟨qe Tryz.func32 rfl rfl⟩
instance en33:EnC Tryz.prog 33:=⟨qe Tryz.func33 rfl rfl⟩
instance en34:EnC Tryz.prog 34:=⟨qe Tryz.func34 rfl rfl⟩
instance en35:EnC Tryz.prog 35:=⟨qe Tryz.func35 rfl rfl⟩
instance en37:EnC Tryz.prog 37:=⟨qe Tryz.func37 rfl rfl⟩
instance en38:EnC Tryz.prog 38:=⟨qe Tryz.func38 rfl rfl⟩
instance en39:EnC Tryz.prog 39:=⟨qe Tryz.func39 rfl rfl⟩
instance en40:EnC Tryz.prog 40:=⟨qe Tryz.func40 rfl rfl⟩
instance en52:EnC Tryz.prog 52:=⟨qe Tryz.func52 rfl rfl⟩
instance en53:EnC Tryz.prog 53:=⟨qe Tryz.func53 rfl rfl⟩
theorem ent54:Enters Tryz.prog 54:=qe Tryz.func54 rfl rfl
instance en54:EnC Tryz.prog 54:=⟨ent54⟩
theorem ent55:Enters Tryz.prog 55:=qe Tryz.func55 rfl rfl
instance en55:EnC Tryz.prog 55:=⟨ent55⟩
theorem ent56:Enters Tryz.prog 56:=qe Tryz.func56 rfl rfl
instance en56:EnC Tryz.prog 56:=⟨ent56⟩
instance en57:EnC Tryz.prog 57:=⟨qe Tryz.func57 rfl rfl⟩
instance en58:EnC Tryz.prog 58:=⟨qe Tryz.func58 rfl rfl⟩
instance en59:EnC Tryz.prog 59:=⟨qe Tryz.func59 rfl rfl⟩
instance en60:EnC Tryz.prog 60:=⟨qe Tryz.func60 rfl rfl⟩
instance en61:EnC Tryz.prog 61:=⟨qe Tryz.func61 rfl rfl⟩
instance en62:EnC Tryz.prog 62:=⟨qe Tryz.func62 rfl rfl⟩
instance en63:EnC Tryz.prog 63:=⟨qe Tryz.func63 rfl rfl⟩
instance en64:EnC Tryz.prog 64:=⟨qe Tryz.func64 rfl rfl⟩
instance en65:EnC Tryz.prog 65:=⟨qe Tryz.func65 rfl rfl⟩
instance en66:EnC Tryz.prog 66:=⟨qe Tryz.func66 rfl rfl⟩
instance en67:EnC Tryz.prog 67:=⟨qe Tryz.func67 rfl rfl⟩
instance en68:EnC Tryz.prog 68:=⟨qe Tryz.func68 rfl rfl⟩
instance en69:EnC Tryz.prog 69:=⟨qe Tryz.func69 rfl rfl⟩
instance en70:EnC Tryz.prog 70:=⟨qe Tryz.func70 rfl rfl⟩
instance en71:EnC Tryz.prog 71:=⟨qe Tryz.func71 rfl rfl⟩
instance en79:EnC Tryz.prog 79:=⟨qe Tryz.func79 rfl rfl⟩
instance en80:EnC Tryz.prog 80:=⟨qe Tryz.func80 rfl rfl⟩
instance en81:EnC Tryz.prog 81:=⟨qe Tryz.func81 rfl rfl⟩
instance en82:EnC Tryz.prog 82:=⟨qe Tryz.func82 rfl rfl⟩
instance en83:EnC Tryz.prog 83:=⟨qe Tryz.func83 rfl rfl⟩
instance en84:EnC Tryz.prog 84:=⟨qe Tryz.func84 rfl rfl⟩
instance en85:EnC Tryz.prog 85:=⟨qe Tryz.func85 rfl rfl⟩
instance en86:EnC Tryz.prog 86:=⟨qe Tryz.func86 rfl rfl⟩
instance en87:EnC Tryz.prog 87:=⟨qe Tryz.func87 rfl rfl⟩
instance en88:EnC Tryz.prog 88:=⟨qe Tryz.func88 rfl rfl⟩
instance en89:EnC Tryz.prog 89:=⟨qe Tryz.func89 rfl rfl⟩
instance en90:EnC Tryz.prog 90:=⟨qe Tryz.func90 rfl rfl⟩
instance en91:EnC Tryz.prog 91:=⟨qe Tryz.func91 rfl rfl⟩
instance en92:EnC Tryz.prog 92:=⟨qe Tryz.func92 rfl rfl⟩
instance en93:EnC Tryz.prog 93:=⟨qe Tryz.func93 rfl rfl⟩
instance en94:EnC Tryz.prog 94:=⟨qe Tryz.func94 rfl rfl⟩
instance en95:EnC Tryz.prog 95:=⟨qe Tryz.func95 rfl rfl⟩
instance en96:EnC Tryz.prog 96:=⟨qe Tryz.func96 rfl rfl⟩
instance en97:EnC Tryz.prog 97:=⟨qe Tryz.func97 rfl rfl⟩
instance en102:EnC Tryz.prog 102:=⟨qe Tryz.func102 rfl rfl⟩
instance en103:EnC Tryz.prog 103:=⟨qe Tryz.func103 rfl rfl⟩
instance en104:EnC Tryz.prog 104:=⟨qe Tryz.func104 rfl rfl⟩
instance en105:EnC Tryz.prog 105:=⟨qe Tryz.func105 rfl rfl⟩
instance en106:EnC Tryz.prog 106:=⟨qe Tryz.func106 rfl rfl⟩
instance en107:EnC Tryz.prog 107:=⟨qe Tryz.func107 rfl rfl⟩
instance en108:EnC Tryz.prog 108:=⟨qe Tryz.func108 rfl rfl⟩
instance en109:EnC Tryz.prog 109:=⟨qe Tryz.func109 rfl rfl⟩
theorem ent110:Enters Tryz.prog 110:=qe Tryz.func110 rfl rfl
instance en110:EnC Tryz.prog 110:=⟨ent110⟩
instance en111:EnC Tryz.prog 111:=⟨qe Tryz.func111 rfl rfl⟩
theorem ent112:Enters Tryz.prog 112:=qe Tryz.func112 rfl rfl
instance en112:EnC Tryz.prog 112:=⟨ent112⟩
theorem ent113:Enters Tryz.prog 113:=qe Tryz.func113 rfl rfl
instance en113:EnC Tryz.prog 113:=⟨ent113⟩
theorem ent114:Enters Tryz.prog 114:=qe Tryz.func114 rfl rfl
instance en114:EnC Tryz.prog 114:=⟨ent114⟩
instance en115:EnC Tryz.prog 115:=⟨qe Tryz.func115 rfl rfl⟩
instance en116:EnC Tryz.prog 116:=⟨qe Tryz.func116 rfl rfl⟩
instance en117:EnC Tryz.prog 117:=⟨qe Tryz.func117 rfl rfl⟩
instance en118:EnC Tryz.prog 118:=⟨qe Tryz.func118 rfl rfl⟩
instance en119:EnC Tryz.prog 119:=⟨qe Tryz.func119 rfl rfl⟩
instance en120:EnC Tryz.prog 120:=⟨qe Tryz.func120 rfl rfl⟩
instance en121:EnC Tryz.prog 121:=⟨qe Tryz.func121 rfl rfl⟩
instance en122:EnC Tryz.prog 122:=⟨qe Tryz.func122 rfl rfl⟩
instance en123:EnC Tryz.prog 123:=⟨qe Tryz.func123 rfl rfl⟩
instance en124:EnC Tryz.prog 124:=⟨qe Tryz.func124 rfl rfl⟩
instance en125:EnC Tryz.prog 125:=⟨qe Tryz.func125 rfl rfl⟩
instance en126:EnC Tryz.prog 126:=⟨qe Tryz.func126 rfl rfl⟩
instance en127:EnC Tryz.prog 127:=⟨qe Tryz.func127 rfl rfl⟩
instance en128:EnC Tryz.prog 128:=⟨qe Tryz.func128 rfl rfl⟩
instance en138:EnC Tryz.prog 138:=⟨qe Tryz.func138 rfl rfl⟩
instance en139:EnC Tryz.prog 139:=⟨qe Tryz.func139 rfl rfl⟩
instance en140:EnC Tryz.prog 140:=⟨qe Tryz.func140 rfl rfl⟩
instance en141:EnC Tryz.prog 141:=⟨qe Tryz.func141 rfl rfl⟩
instance en142:EnC Tryz.prog 142:=⟨qe Tryz.func142 rfl rfl⟩
instance en143:EnC Tryz.prog 143:=⟨qe Tryz.func143 rfl rfl⟩
instance en144:EnC Tryz.prog 144:=⟨qe Tryz.func144 rfl rfl⟩
instance en145:EnC Tryz.prog 145:=⟨qe Tryz.func145 rfl rfl⟩
instance en146:EnC Tryz.prog 146:=⟨qe Tryz.func146 rfl rfl⟩
theorem ent147:Enters Tryz.prog 147:=qe Tryz.func147 rfl rfl
instance en147:EnC Tryz.prog 147:=⟨ent147⟩
instance en148:EnC Tryz.prog 148:=⟨qe Tryz.func148 rfl rfl⟩
theorem ent149:Enters Tryz.prog 149:=qe Tryz.func149 rfl rfl
instance en149:EnC Tryz.prog 149:=⟨ent149⟩
theorem ent150:Enters Tryz.prog 150:=qe Tryz.func150 rfl rfl
instance en150:EnC Tryz.prog 150:=⟨ent150⟩
instance en151:EnC Tryz.prog 151:=⟨qe Tryz.func151 rfl rfl⟩
instance en152:EnC Tryz.prog 152:=⟨qe Tryz.func152 rfl rfl⟩
instance en153:EnC Tryz.prog 153:=⟨qe Tryz.func153 rfl rfl⟩
instance en154:EnC Tryz.prog 154:=⟨qe Tryz.func154 rfl rfl⟩
instance en155:EnC Tryz.prog 155:=⟨qe Tryz.func155 rfl rfl⟩
instance en156:EnC Tryz.prog 156:=⟨qe Tryz.func156 rfl rfl⟩
instance en157:EnC Tryz.prog 157:=⟨qe Tryz.func157 rfl rfl⟩
instance en158:EnC Tryz.prog 158:=⟨qe Tryz.func158 rfl rfl⟩
instance en159:EnC Tryz.prog 159:=⟨qe Tryz.func159 rfl rfl⟩
instance en160:EnC Tryz.prog 160:=⟨qe Tryz.func160 rfl rfl⟩
instance en161:EnC Tryz.prog 161:=⟨qe Tryz.func161 rfl rfl⟩
instance en162:EnC Tryz.prog 162:=⟨qe Tryz.func162 rfl rfl⟩
instance en163:EnC Tryz.prog 163:=⟨qe Tryz.func163 rfl rfl⟩
instance en164:EnC Tryz.prog 164:=⟨qe Tryz.func164 rfl rfl⟩
instance en165:EnC Tryz.prog 165:=⟨qe Tryz.func165 rfl rfl⟩
instance en171:EnC Tryz.prog 171:=⟨qe Tryz.func171 rfl rfl⟩
instance en172:EnC Tryz.prog 172:=⟨qe Tryz.func172 rfl rfl⟩
instance en173:EnC Tryz.prog 173:=⟨qe Tryz.func173 rfl rfl⟩
theorem ent174:Enters Tryz.prog 174:=qe Tryz.func174 rfl rfl
instance en174:EnC Tryz.prog 174:=⟨ent174⟩
theorem ent175:Enters Tryz.prog 175:=qe Tryz.func175 rfl rfl
instance en175:EnC Tryz.prog 175:=⟨ent175⟩
instance en176:EnC Tryz.prog 176:=⟨qe Tryz.func176 rfl rfl⟩
instance en177:EnC Tryz.prog 177:=⟨qe Tryz.func177 rfl rfl⟩
instance en178:EnC Tryz.prog 178:=⟨qe Tryz.func178 rfl rfl⟩
instance en179:EnC Tryz.prog 179:=⟨qe Tryz.func179 rfl rfl⟩
instance en180:EnC Tryz.prog 180:=⟨qe Tryz.func180 rfl rfl⟩
instance en181:EnC Tryz.prog 181:=⟨qe Tryz.func181 rfl rfl⟩
instance en182:EnC Tryz.prog 182:=⟨qe Tryz.func182 rfl rfl⟩
instance en183:EnC Tryz.prog 183:=⟨qe Tryz.func183 rfl rfl⟩
instance en184:EnC Tryz.prog 184:=⟨qe Tryz.func184 rfl rfl⟩
instance en186:EnC Tryz.prog 186:=⟨qe Tryz.func186 rfl rfl⟩
instance en187:EnC Tryz.prog 187:=⟨qe Tryz.func187 rfl rfl⟩
instance en188:EnC Tryz.prog 188:=⟨qe Tryz.func188 rfl rfl⟩
instance en189:EnC Tryz.prog 189:=⟨qe Tryz.func189 rfl rfl⟩
instance en190:EnC Tryz.prog 190:=⟨qe Tryz.func190 rfl rfl⟩
instance en191:EnC Tryz.prog 191:=⟨qe Tryz.func191 rfl rfl⟩
instance en192:EnC Tryz.prog 192:=⟨qe Tryz.func192 rfl rfl⟩
instance en193:EnC Tryz.prog 193:=⟨qe Tryz.func193 rfl rfl⟩
instance en194:EnC Tryz.prog 194:=⟨qe Tryz.func194 rfl rfl⟩
instance en196:EnC Tryz.prog 196:=⟨qe Tryz.func196 rfl rfl⟩
instance en197:EnC Tryz.prog 197:=⟨qe Tryz.func197 rfl rfl⟩
instance en198:EnC Tryz.prog 198:=⟨qe Tryz.func198 rfl rfl⟩
instance en199:EnC Tryz.prog 199:=⟨qe Tryz.func199 rfl rfl⟩
instance en200:EnC Tryz.prog 200:=⟨qe Tryz.func200 rfl rfl⟩
instance en201:EnC Tryz.prog 201:=⟨qe Tryz.func201 rfl rfl⟩
instance en202:EnC Tryz.prog 202:=⟨qe Tryz.func202 rfl rfl⟩
theorem ent211:Enters Tryz.prog 211:=qe Tryz.func211 rfl rfl
instance en211:EnC Tryz.prog 211:=⟨ent211⟩
instance en212:EnC Tryz.prog 212:=⟨qe Tryz.func212 rfl rfl⟩
instance en213:EnC Tryz.prog 213:=⟨qe Tryz.func213 rfl rfl⟩
instance en214:EnC Tryz.prog 214:=⟨qe Tryz.func214 rfl rfl⟩
theorem qvD (v:Value)(w:World):(Instr.makeInterface 174 v).run Tryz.prog w=.ok (.iface 174 v) w:=by simp[Instr.makeInterface,run_underlying Tryz.underlying174]
abbrev lostCh:List PanicEntry:=[{ v:=.iface 174 (.agg #[]),recovered:=false }]
theorem qvx (p q:Addr):qlW Tryz.prog 112 #[.pointer (some p),.pointer (some q)]:=by
  intro w
  refine callsD_of_wpS Tryz.func112 rfl fun c₀ cs hu=>?_
  apply wpS_seq
  apply wpS_region
  simp[wpOpsS,go_sem,recoverD,hu,Tryz.ntmps112,Exit.thenS]
  refine wpS_of_wp ?_
  go_wp2
  cases c₀
  simp_all [bodyPostS,results,Tryz.results112]
theorem qsg (w:World):(Instr.typeAssert (.iface 174 (.agg #[])) 20 174 true).run Tryz.prog w=.ok (.tuple #[.agg #[],.bool true]) w:=by
  simp[Instr.typeAssert,run_underlying Tryz.underlying174]
theorem eqn112 (x y:Operand)(w:World):(do eqGuard .eql 20 x y (.iface 174 (.agg #[])) .nilIface;binOp .eql 20 (.iface 174 (.agg #[])) .nilIface:Sem Value).run Tryz.prog w=.ok (.bool false) w:=by
  simp[go_sem]
set_option maxRecDepth 100000 in
theorem qiO (g1 g2:Nat)(v1 v2:Value):qlX Tryz.prog 112 #[.pointer (some ⟨g1,0,none⟩),.pointer (some ⟨g2,0,none⟩)] 174 (.agg #[]) [⟨g1,39,[v1]⟩,⟨g2,4,[v2]⟩] [⟨g1,39,[.slice none 0 0]⟩,⟨g2,4,[.bool false]⟩]:=by
  intro w hp
  refine callsD_of_wpS Tryz.func112 rfl fun c₀ cs hu=>?_
  apply wpS_seq
  apply wpS_region
  simp[wpOpsS,go_sem,recoverD,hu,Tryz.ntmps112,Exit.thenS]
  refine wpS_of_wp (qhe.1 ?_)
  refine (show SXC Tryz.prog none 11 [] (muts [⟨g1,39,[v1]⟩,⟨g2,4,[v2]⟩] []) w _ _ [(0,.pointer (some ⟨g1,0,none⟩)),(1,.pointer (some ⟨g2,0,none⟩)),(5,.iface 174 (.agg #[]))] [⟨g1,39,[v1]⟩,⟨g2,4,[v2]⟩] [] [] (some ()) () from ?_) rfl _ _ ⟨rfl,by simp,fun i v hv=>?_⟩ hp
  · refine qmA ?_
    refine qbT ?_
    refine kD ?_
    refine qpA rfl rfl rfl (eqn112 _ _) rfl ?_
    refine jP ?_
    refine jA ?_
    refine qb3 (b:=false) rfl (fun h=>by cases h) (fun _=>?_)
    refine qbT ?_
    refine kD ?_
    refine qn4 rfl rfl qsg rfl ?_
    refine qam rfl rfl rfl rfl ?_
    refine qam rfl rfl rfl rfl ?_
    refine jP ?_
    refine jA ?_
    refine qb3 (b:=true) rfl (fun _=>?_) (fun h=>by cases h)
    refine qbT ?_
    refine kD ?_
    refine qjs rfl tf174 rfl (fun g=>?_)
    refine vH (i:=0) rfl rfl rfl tf174 rfl rfl rfl rfl rfl ?_
    refine jP ?_
    refine jA ?_
    refine kD ?_
    refine vH (i:=1) rfl rfl rfl tf39 rfl rfl rfl rfl rfl ?_
    refine vH (i:=2) rfl rfl rfl tf4 rfl rfl rfl rfl rfl ?_
    refine jP ?_
    refine qpE ?_
    intro _ a w' hf hp'
    exact ⟨hf.defers,_,rfl,_,results_none rfl _ _ _,rfl,rfl,hp'.pick (.cons 1 rfl (.cons 1 rfl .nil)) .nil (by simp)⟩
  · simp only[qad] at hv
    split at hv
    · rename_i h;subst h;simpa using hv
    · split at hv
      · rename_i h;subst h;simpa using hv
      · split at hv
        · rename_i h;subst h;simpa using hv
        · cases hv
instance un2:UnF Tryz.prog 2 (.int .i64):=⟨Tryz.underlying2⟩
instance un3:UnF Tryz.prog 3 (.int .i64):=⟨Tryz.underlying3⟩
instance un4:UnF Tryz.prog 4 .bool:=⟨Tryz.underlying4⟩
instance un5:UnF Tryz.prog 5 (.int .u8):=⟨Tryz.underlying5⟩
instance un9:UnF Tryz.prog 9 .string:=⟨Tryz.underlying9⟩
instance un22:UnF Tryz.prog 22 (.slice 39):=⟨Tryz.underlying22⟩
instance un27:UnF Tryz.prog 27 (.slice 5):=⟨Tryz.underlying27⟩
instance un39:UnF Tryz.prog 39 (.slice 3):=⟨Tryz.underlying39⟩
instance un110:UnF Tryz.prog 110 (.int .u64):=⟨Tryz.underlying110⟩
instance un119:UnF Tryz.prog 119 (.int .u64):=⟨Tryz.underlying119⟩
instance un184:UnF Tryz.prog 184 (.slice 189):=⟨Tryz.underlying184⟩
instance un191:UnF Tryz.prog 191 (.slice 119):=⟨Tryz.underlying191⟩
theorem stm (c:Nat)(q:List Nat){p:List Nat}{A:Prop}(h:Stp (q++p) A):Stp (c::p) A:=⟨h.go⟩
set_option maxRecDepth 100000 in
theorem au0 (p:List Nat){A B:Prop}(t:B→Stp p A:=by
  intro h
  repeat (first
    | exact stp0 h
    | (refine stc 0 ?_;refine stk (fun h=>jP h) ?_)
    | (refine stc 1 ?_;refine stk (fun h=>yY rfl rfl rfl h) ?_)
    | (refine stc 2 ?_;refine stk (fun h=>jA h) ?_)
    | (refine stc 3 ?_;refine stk (fun h=>qbT h) ?_)
    | (refine stc 4 ?_;refine stk (fun h=>kD h) ?_)
    | (refine stc 5 ?_;refine stk (fun h=>jH rfl rfl rfl h) ?_)
    | (refine stc 6 ?_;refine stk (fun h=>quZ rfl rfl rfl h) ?_)
    | (refine stc 7 ?_;refine qi2 rfl rfl rfl (qag rfl) ?_)
    | (refine stc 8 ?_;refine stk (fun h=>quO rfl (And.left h) (And.right h)) ?_)
    | (refine stc 9 ?_;refine stk (fun h=>qpz h) ?_)
    | (refine stc 10 ?_;refine stk (fun h=>qrX h) ?_)
    | (refine stc 11 ?_;refine stk (fun h=>qs0 h) ?_)
    | (refine stc 12 ?_;refine stk (fun h=>kv rfl rfl inferInstance rfl h) ?_)
    | (refine stc 13 ?_;refine stk (fun h=>qam rfl rfl rfl rfl h) ?_)
    | (refine stc 14 ?_;refine stk (fun h=>qmA h) ?_)
    | (refine stc 15 ?_;refine qvW rfl rfl rfl ?_)
    | (refine stc 16 ?_;refine stk (fun h=>qrY rfl rfl rfl rfl h) ?_)
    | (refine stc 17 ?_;refine stk (fun h=>qs1 h) ?_)
    | (refine stc 18 ?_;exact stz (qm ()))
    | (refine stc 19 ?_;exact stz (qsY))
    | (refine stc 20 ?_;refine stk (fun h=>yq (i:=0) rfl rfl inferInstance rfl rfl (fun _=>rfl) rfl rfl h) ?_)
    | (refine stc 21 ?_;refine stk (fun h=>qwa rfl UnF.u rfl rfl h) ?_)
    | (refine stc 22 ?_;refine stk (fun h=>qpE h) ?_)
    | (refine stc 23 ?_;refine stk (fun h=>qwc rfl rfl rfl rfl h) ?_)
    | (refine stc 24 ?_;first
      | (refine sta 0 ?_;refine stk (fun h=>qu2 h) ?_)
      | (refine sta 1 ?_;refine stk (fun h=>qpD (b:=true) rfl rfl rfl rfl h) ?_)
      | (refine sta 2 ?_;refine stk (fun h=>qpD (b:=false) rfl rfl rfl rfl h) ?_)
      | (refine sta 3 ?_;refine stk (fun h=>qv4 rfl rfl rfl h) ?_)
      | (refine sta 4 ?_;refine qi2 rfl rfl rfl (jB rfl inferInstance) ?_)
      | (refine sta 5 ?_;refine stk (fun h=>quN h) ?_)
      | (refine sta 6 ?_;refine stk (fun h=>qu3 h) ?_)
      | (refine sta 7 ?_;refine stk (fun h=>qr0 rfl rfl rfl rfl h) ?_)
      | (refine sta 8 ?_;refine stk (fun h=>yq (i:=0) rfl rfl inferInstance rfl rfl (by simp) rfl rfl h) ?_)
      | (refine sta 9 ?_;refine qvX rfl (by kernel_rfl) rfl ?_)
      | (refine sta 10 ?_;refine stk (fun h=>vH (i:=0) rfl rfl rfl inferInstance rfl rfl rfl rfl rfl h) ?_)
      | (refine sta 11 ?_;refine stk (fun h=>qv8 rfl rfl rfl rfl h) ?_)
      | (refine sta 12 ?_;refine stk (fun h=>quJ h) ?_)
      | (refine sta 13 ?_;refine stk (fun h=>qr2 rfl rfl rfl rfl h) ?_)
      | (refine sta 14 ?_;refine stk (fun h=>qpu (by kernel_rfl) h) ?_)
      | (refine sta 15 ?_;refine stk (fun h=>quS rfl UnF.u UnF.u rfl rfl h) ?_))
    | (refine stc 25 ?_;first
      | (refine sta 0 ?_;refine stk (fun h=>qjs rfl inferInstance rfl h) ?_)
      | (refine sta 1 ?_;refine stk (fun h=>qgX Int (eI .i64) 3 1 h) ?_)
      | (refine sta 2 ?_;refine stk (fun h=>qwi rfl rfl rfl rfl h) ?_)
      | (refine sta 3 ?_;refine stk (fun h=>qmC (j:=0) rfl rfl inferInstance rfl rfl (fun _=>rfl) rfl rfl h) ?_)
      | (refine sta 4 ?_;refine stk (fun h=>qwj rfl rfl rfl h) ?_)
      | (refine sta 5 ?_;refine stk (fun h=>yq (i:=1) rfl rfl inferInstance rfl rfl (by simp) rfl rfl h) ?_)
      | (refine sta 6 ?_;refine stk (fun h=>vH (i:=1) rfl rfl rfl inferInstance rfl rfl rfl rfl rfl h) ?_)
      | (refine sta 7 ?_;refine stk (fun h=>qw6 (And.left h) (And.right h)) ?_)
      | (refine sta 8 ?_;refine stk (fun h=>quI h) ?_)
      | (refine sta 9 ?_;refine stk (fun h=>qcB rfl rfl rfl h) ?_)
      | (refine sta 10 ?_;refine stk (fun h=>yq (i:=1) rfl rfl inferInstance rfl rfl (fun _=>rfl) rfl rfl h) ?_)
      | (refine sta 11 ?_;refine stk (fun h=>qgX Int (eI .u8) 5 1 h) ?_)
      | (refine sta 12 ?_;refine qk1 rfl rfl rfl (zN (i:=0) rfl inferInstance rfl rfl (fun _=>rfl) rfl) ?_)
      | (refine sta 13 ?_;refine stk (fun h=>qsZ h) ?_)
      | (refine sta 14 ?_;refine stk (fun h=>qdp (j:=0) (qs .i64) (by decide) rfl UnF.u inferInstance rfl rfl rfl rfl h) ?_)
      | (refine sta 15 ?_;refine stk (fun h=>quK h) ?_))
    | (refine stc 26 ?_;first
      | (refine sta 0 ?_;refine stk (fun h=>qv6 h) ?_)
      | (refine sta 1 ?_;refine stk (fun h=>yq (i:=2) rfl rfl inferInstance rfl rfl (by simp) rfl rfl h) ?_)
      | (refine sta 2 ?_;refine stk (fun h=>qgT Int (eI .i64) 3 1 h) ?_)
      | (refine sta 3 ?_;refine stk (fun h=>qv9 rfl rfl rfl rfl h) ?_)
      | (refine sta 4 ?_;refine stk (fun h=>quW h) ?_)
      | (refine sta 5 ?_;exact stz (qa ((),())))
      | (refine sta 6 ?_;refine stk (fun h=>qwf rfl rfl rfl rfl h) ?_)
      | (refine sta 7 ?_;refine stk (fun h=>qwb rfl rfl rfl rfl h) ?_)
      | (refine sta 8 ?_;refine stk (fun h=>kb .nil (qF 0 rfl (qF 1 rfl (qF 2 rfl (qF 3 rfl (qF 4 rfl qA))))) h) ?_)
      | (refine sta 9 ?_;refine stk (fun h=>qu5 (qAq) (qAr×Nat) eN39 rN39 39 1 h) ?_)
      | (refine sta 10 ?_;refine stk (fun h=>yq (i:=2) rfl rfl inferInstance rfl rfl (fun _=>rfl) rfl rfl h) ?_)
      | (refine sta 11 ?_;refine stk (fun h=>kb (.cons 0 rfl (.cons 1 rfl .nil)) (qF 0 rfl (qjS 1 rfl qA)) h) ?_)
      | (refine sta 12 ?_;exact stz (qmF (.cons 0 rfl .nil)))
      | (refine sta 13 ?_;refine stk (fun h=>qf qom h) ?_)
      | (refine sta 14 ?_;refine stk (fun h=>qhO rfl rfl rfl rfl rfl h) ?_)
      | (refine sta 15 ?_;refine stk (fun h=>qdp (j:=1) (qs .i64) (by decide) rfl UnF.u inferInstance rfl rfl rfl rfl h) ?_))
    | (refine stc 27 ?_;first
      | (refine sta 0 ?_;refine stk (fun h=>qla (j:=0) vf (by decide) rfl UnF.u inferInstance rfl rfl rfl rfl h) ?_)
      | (refine sta 1 ?_;refine stk (fun h=>qr1 rfl rfl rfl rfl rfl h) ?_)
      | (refine sta 2 ?_;refine stk (fun h=>qsQ (And.left h) (And.right h)) ?_)
      | (refine sta 3 ?_;refine stk (fun h=>vH (i:=2) rfl rfl rfl inferInstance rfl rfl rfl rfl rfl h) ?_)
      | (refine sta 4 ?_;refine stk (fun h=>kb (.cons 1 rfl (.cons 1 rfl .nil)) (qF 0 rfl qA) h) ?_)
      | (refine sta 5 ?_;refine stk (fun h=>qv1 h) ?_)
      | (refine sta 6 ?_;refine stk (fun h=>quL h) ?_)
      | (refine sta 7 ?_;refine stk (fun h=>qjH Int (eI .u8) 5 1 h) ?_)
      | (refine sta 8 ?_;refine stk (fun h=>qu1 h) ?_)
      | (refine sta 9 ?_;refine stk (fun h=>qf qll h) ?_)
      | (refine sta 10 ?_;refine stk (fun h=>qf qpR h) ?_)
      | (refine sta 11 ?_;refine stk (fun h=>zg qhX h) ?_)
      | (refine sta 12 ?_;refine stk (fun h=>qgp (j:=1) (qs .i64) (by decide) rfl h) ?_)
      | (refine sta 13 ?_;refine stk (fun h=>quM h) ?_)
      | (refine sta 14 ?_;refine stk (fun h=>qjH Int (eI .i64) 3 1 h) ?_)
      | (refine sta 15 ?_;refine stk (fun h=>qE 0 (qs .i64) rfl UnF.u inferInstance rfl rfl rfl rfl rfl (.inr ⟨0,rfl⟩) rfl rfl h) ?_))
    | (refine stc 28 ?_;first
      | (refine sta 0 ?_;refine stk (fun h=>qf qlm h) ?_)
      | (refine sta 1 ?_;refine stk (fun h=>kb (.cons 0 rfl .nil) (qF 0 rfl qA) h) ?_)
      | (refine sta 2 ?_;refine stk (fun h=>qf qsd h) ?_)
      | (refine sta 3 ?_;refine stk (fun h=>qi6 rfl rfl rfl rfl rfl h) ?_)
      | (refine sta 4 ?_;refine stk (fun h=>qwd rfl rfl rfl rfl h) ?_)
      | (refine sta 5 ?_;refine qk1 rfl rfl rfl (zN (i:=1) rfl inferInstance rfl rfl (fun _=>rfl) rfl) ?_)
      | (refine sta 6 ?_;refine stk (fun h=>qeO 24 rfl (by kernel_rfl) (.cons 0 rfl (.cons 1 rfl .nil)) h) ?_)
      | (refine sta 7 ?_;refine stk (fun h=>qw5 (And.left h) (And.right h)) ?_)
      | (refine sta 8 ?_;refine stk (fun h=>qf qpO h) ?_)
      | (refine sta 9 ?_;refine qi2 rfl rfl rfl (qwm UnF.u UnF.u rfl) ?_)
      | (refine sta 10 ?_;refine stk (fun h=>yq (i:=3) rfl rfl inferInstance rfl rfl (fun _=>rfl) rfl rfl h) ?_)
      | (refine sta 11 ?_;refine stk (fun h=>qgp (j:=0) (qs .i64) (by decide) rfl h) ?_)
      | (refine sta 12 ?_;refine qi2 rfl rfl rfl (qxa UnF.u rfl) ?_)
      | (refine sta 13 ?_;refine stk (fun h=>qf qm5 h) ?_)
      | (refine sta 14 ?_;refine stk (fun h=>kb (.cons 1 rfl (.cons 1 rfl .nil)) (qF 0 rfl (qF 1 rfl (qF 2 rfl (qF 3 rfl qA)))) h) ?_)
      | (refine sta 15 ?_;refine stk (fun h=>qgU (j:=0) rfl UnF.u inferInstance rfl rfl rfl rfl h) ?_))
    | (refine stc 29 ?_;first
      | (refine sta 0 ?_;refine stk (fun h=>qn6 rfl rfl rfl h) ?_)
      | (refine sta 1 ?_;refine stk (fun h=>qv3 rfl rfl rfl rfl h) ?_)
      | (refine sta 2 ?_;refine stk (fun h=>yq (i:=3) rfl rfl inferInstance rfl rfl (by simp) rfl rfl h) ?_)
      | (refine sta 3 ?_;refine stk (fun h=>zg qon h) ?_)
      | (refine sta 4 ?_;refine stk (fun h=>qgT Int (eI .u8) 5 1 h) ?_)
      | (refine sta 5 ?_;refine stk (fun h=>qf qoo h) ?_)
      | (refine sta 6 ?_;refine stk (fun h=>qf qf0 h) ?_)
      | (refine sta 7 ?_;refine stk (fun h=>kb (.cons 0 rfl .nil) (qF 0 rfl (qF 1 rfl qA)) h) ?_)
      | (refine sta 8 ?_;refine stk (fun h=>qf qlL h) ?_)
      | (refine sta 9 ?_;refine stk (fun h=>qf qnc h) ?_)
      | (refine sta 10 ?_;refine stk (fun h=>qpx (j:=2) rfl h) ?_)
      | (refine sta 11 ?_;refine stk (fun h=>qgp (j:=2) (qs .i64) (by decide) rfl h) ?_)
      | (refine sta 12 ?_;refine stk (fun h=>qf qmS h) ?_)
      | (refine sta 13 ?_;refine stk (fun h=>qpx (j:=0) rfl h) ?_)
      | (refine sta 14 ?_;refine stk (fun h=>qf qiD h) ?_)
      | (refine sta 15 ?_;refine stk (fun h=>kb .nil (qjS 0 rfl qA) h) ?_))
    | (refine stc 30 ?_;first
      | (refine sta 0 ?_;refine stk (fun h=>qf qeG h) ?_)
      | (refine sta 1 ?_;refine qk1 rfl rfl rfl (zN (i:=2) rfl inferInstance rfl rfl (fun _=>rfl) rfl) ?_)
      | (refine sta 2 ?_;refine stk (fun h=>qdp (j:=0) ku (by decide) rfl UnF.u inferInstance rfl rfl rfl rfl h) ?_)
      | (refine sta 3 ?_;refine stk (fun h=>qmC (j:=0) rfl rfl inferInstance rfl rfl (by simp) rfl rfl h) ?_)
      | (refine sta 4 ?_;exact stz (zP ()))
      | (refine sta 5 ?_;refine stk (fun h=>kb (.cons 0 rfl (.cons 0 rfl .nil)) (qF 0 rfl qA) h) ?_)
      | (refine sta 6 ?_;refine stk (fun h=>zg qpV h) ?_)
      | (refine sta 7 ?_;refine stk (fun h=>qf qne h) ?_)
      | (refine sta 8 ?_;refine stk (fun h=>qix 0 rfl h) ?_)
      | (refine sta 9 ?_;refine stk (fun h=>kb (.cons 0 rfl (.cons 0 rfl .nil)) (qF 0 rfl (qF 1 rfl (qF 2 rfl (qF 3 rfl qA)))) h) ?_)
      | (refine sta 10 ?_;refine stk (fun h=>qgp (j:=0) (qs .u8) (by decide) rfl h) ?_)
      | (refine sta 11 ?_;refine stk (fun h=>qf qmZ h) ?_)
      | (refine sta 12 ?_;refine stk (fun h=>qrZ (j:=0) (qs .i64) rfl UnF.u inferInstance rfl rfl rfl rfl rfl h) ?_)
      | (refine sta 13 ?_;refine stk (fun h=>qx (vs:=[]) (ys:=([]:qAq)) (qs .i64) (by decide) rfl UnF.u inferInstance rfl rfl rfl rfl rfl (by decide) h) ?_)
      | (refine sta 14 ?_;refine stk (fun h=>zR 0 _ rfl rfl rfl (qag rfl) rfl h) ?_)
      | (refine sta 15 ?_;refine stk (fun h=>zR 1 _ rfl rfl rfl (qag rfl) rfl h) ?_))
    | (refine stc 31 ?_;first
      | (refine sta 0 ?_;refine stk (fun h=>zR 2 _ rfl rfl rfl (jB rfl inferInstance) rfl h) ?_)
      | (refine sta 1 ?_;refine stk (fun h=>zR 4 _ rfl rfl rfl (qag rfl) rfl h) ?_)
      | (refine sta 2 ?_;refine stk (fun h=>kb (.cons 0 rfl (.cons 0 rfl (.cons 0 rfl (.cons 0 rfl .nil)))) (qF 0 rfl qA) h) ?_)
      | (refine sta 3 ?_;refine stk (fun h=>kb (.cons 0 rfl (.cons 0 rfl .nil)) (qF 0 rfl (qF 1 rfl qA)) h) ?_)
      | (refine sta 4 ?_;refine stk (fun h=>qf qoj h) ?_)
      | (refine sta 5 ?_;refine stk (fun h=>qf qmM h) ?_)
      | (refine sta 6 ?_;refine stk (fun h=>qf qmN h) ?_)
      | (refine sta 7 ?_;refine stk (fun h=>qf qlp h) ?_)
      | (refine sta 8 ?_;refine stk (fun h=>qf qog h) ?_)
      | (refine sta 9 ?_;refine stk (fun h=>qf qjM h) ?_)
      | (refine sta 10 ?_;refine stk (fun h=>qf qmQ h) ?_)
      | (refine sta 11 ?_;refine stk (fun h=>qf qlM h) ?_)
      | (refine sta 12 ?_;refine stk (fun h=>qsT rfl UnF.u rfl rfl rfl h) ?_)
      | (refine sta 13 ?_;refine stk (fun h=>qb3 rfl (And.left h) (And.right h)) ?_)
      | (refine sta 14 ?_;refine stk (fun h=>qdp (j:=0) (qs .u8) (by decide) rfl UnF.u inferInstance rfl rfl rfl rfl h) ?_)
      | (refine sta 15 ?_;refine stk (fun h=>zg qpS h) ?_))
    | (refine stc 32 ?_;first
      | (refine sta 0 ?_;refine stk (fun h=>zg qiy h) ?_)
      | (refine sta 1 ?_;refine stk (fun h=>qf qoz h) ?_)
      | (refine sta 2 ?_;refine stk (fun h=>qf qos h) ?_)
      | (refine sta 3 ?_;refine stk (fun h=>qeO 18 rfl (by kernel_rfl) (.cons 0 rfl .nil) h) ?_)
      | (refine sta 4 ?_;refine stk (fun h=>qf qjb h) ?_)
      | (refine sta 5 ?_;refine stk (fun h=>zg qiE h) ?_)
      | (refine sta 6 ?_;refine stk (fun h=>qf qjO h) ?_)
      | (refine sta 7 ?_;refine stk (fun h=>qf qh9 h) ?_)
      | (refine sta 8 ?_;refine stk (fun h=>qwg rfl UnF.u rfl rfl rfl h) ?_)
      | (refine sta 9 ?_;refine stk (fun h=>qgT (Int×Int) eS189 189 2 h) ?_)
      | (refine sta 10 ?_;refine stk (fun h=>vH (i:=3) rfl rfl rfl inferInstance rfl rfl rfl rfl rfl h) ?_)
      | (refine sta 11 ?_;refine stk (fun h=>kb (.cons 0 rfl (.cons 0 rfl (.cons 0 rfl (.cons 0 rfl (.cons 0 rfl .nil))))) (qF 0 rfl qA) h) ?_)
      | (refine sta 12 ?_;refine stk (fun h=>qbU rfl rfl rfl rfl rfl h) ?_)
      | (refine sta 13 ?_;refine stk (fun h=>qwk rfl rfl rfl rfl h) ?_)
      | (refine sta 14 ?_;refine stk (fun h=>qf qlO h) ?_)
      | (refine sta 15 ?_;refine stk (fun h=>qf qke h) ?_))
    | (refine stc 33 ?_;first
      | (refine sta 0 ?_;refine stk (fun h=>qdp (j:=0) (qs .u64) (by decide) rfl UnF.u inferInstance rfl rfl rfl rfl h) ?_)
      | (refine sta 1 ?_;refine stk (fun h=>qgT Int (eI .u64) 119 1 h) ?_)
      | (refine sta 2 ?_;refine stk (fun h=>qix 2 rfl h) ?_)
      | (refine sta 3 ?_;refine stk (fun h=>qf qpW h) ?_)
      | (refine sta 4 ?_;refine stk (fun h=>zg qid h) ?_)
      | (refine sta 5 ?_;refine stk (fun h=>qf qov h) ?_)
      | (refine sta 6 ?_;refine stk (fun h=>zg qlE h) ?_)
      | (refine sta 7 ?_;refine stk (fun h=>qf qm4 h) ?_)
      | (refine sta 8 ?_;refine stk (fun h=>zg qh4 h) ?_)
      | (refine sta 9 ?_;refine stk (fun h=>qf qm3 h) ?_)
      | (refine sta 10 ?_;refine stk (fun h=>qf qpU h) ?_)
      | (refine sta 11 ?_;refine stk (fun h=>qf qou h) ?_)
      | (refine sta 12 ?_;refine stk (fun h=>qf qm2 h) ?_)
      | (refine sta 13 ?_;refine stk (fun h=>qf qm7 h) ?_)
      | (refine sta 14 ?_;refine stk (fun h=>qf qnh h) ?_)
      | (refine sta 15 ?_;refine stk (fun h=>qw7 rfl rfl rfl rfl h) ?_))
    | (refine stc 34 ?_;first
      | (refine sta 0 ?_;refine stk (fun h=>qf qiz h) ?_)
      | (refine sta 1 ?_;refine stk (fun h=>quY (qs .i64) rfl UnF.u inferInstance rfl rfl rfl rfl rfl rfl rfl h) ?_)
      | (refine sta 2 ?_;refine stk (fun h=>qwh rfl rfl rfl h) ?_)
      | (refine sta 3 ?_;refine stk (fun h=>qf qjR h) ?_)
      | (refine sta 4 ?_;exact stz (quQ))
      | (refine sta 5 ?_;refine stk (fun h=>qv5 rfl UnF.u rfl rfl h) ?_)
      | (refine sta 6 ?_;refine stk (fun h=>quU (i:=0) (qs .i64) rfl UnF.u inferInstance rfl rfl rfl rfl h) ?_)
      | (refine sta 7 ?_;refine stk (fun h=>qf qlJ h) ?_)
      | (refine sta 8 ?_;refine stk (fun h=>qiw 0 rfl h) ?_)
      | (refine sta 9 ?_;refine stk (fun h=>qf qgc h) ?_)
      | (refine sta 10 ?_;refine stk (fun h=>zg qg6 h) ?_)
      | (refine sta 11 ?_;refine stk (fun h=>qiw 1 rfl h) ?_)
      | (refine sta 12 ?_;refine stk (fun h=>zR 5 _ rfl rfl rfl (qag rfl) rfl h) ?_)
      | (refine sta 13 ?_;refine stk (fun h=>zR 6 _ rfl rfl rfl (qag rfl) rfl h) ?_)
      | (refine sta 14 ?_;refine stk (fun h=>zR 7 _ rfl rfl rfl (qag rfl) rfl h) ?_)
      | (refine sta 15 ?_;refine stk (fun h=>zR 8 _ rfl rfl rfl (jB rfl inferInstance) rfl h) ?_))
    | (refine stc 35 ?_;first
      | (refine sta 0 ?_;refine stk (fun h=>zR 11 _ rfl rfl rfl (qag rfl) rfl h) ?_)
      | (refine sta 1 ?_;refine stk (fun h=>zR 12 _ rfl rfl rfl (qag rfl) rfl h) ?_)
      | (refine sta 2 ?_;refine stk (fun h=>zR 18 _ rfl rfl rfl (qag rfl) rfl h) ?_)
      | (refine sta 3 ?_;refine stk (fun h=>kb (.cons 0 rfl (.cons 0 rfl (.cons 0 rfl (.cons 0 rfl (.cons 0 rfl .nil))))) (qF 0 rfl (qF 1 rfl qA)) h) ?_)
      | (refine sta 4 ?_;refine stk (fun h=>quP (qAq) (qAr×Nat) eN39 rN39 39 1 h) ?_)
      | (refine sta 5 ?_;refine stk (fun h=>qf qjx h) ?_)
      | (refine sta 6 ?_;refine stk (fun h=>qk7 vf rfl UnF.u inferInstance rfl rfl rfl rfl (.cons 1 rfl (.cons 0 rfl .nil)) rfl rfl h) ?_)
      | (refine sta 7 ?_;refine stk (fun h=>qgp (j:=2) (qs .u8) (by decide) rfl h) ?_)
      | (refine sta 8 ?_;refine stk (fun h=>zg qna h) ?_)
      | (refine sta 9 ?_;refine stk (fun h=>qf qse h) ?_)
      | (refine sta 10 ?_;refine stk (fun h=>qf qoq h) ?_)
      | (refine sta 11 ?_;refine stk (fun h=>qdp (j:=2) (qs .i64) (by decide) rfl UnF.u inferInstance rfl rfl rfl rfl h) ?_)
      | (refine sta 12 ?_;refine stk (fun h=>qf qpM h) ?_)
      | (refine sta 13 ?_;refine stk (fun h=>kb .nil (qF 0 rfl (qF 1 rfl (qF 2 rfl qA))) h) ?_)
      | (refine sta 14 ?_;refine stk (fun h=>qgU (j:=2) rfl UnF.u inferInstance rfl rfl rfl rfl h) ?_)
      | (refine sta 15 ?_;refine stk (fun h=>qix 1 rfl h) ?_))
    | (refine stc 36 ?_;first
      | (refine sta 0 ?_;refine stk (fun h=>qf qmT h) ?_)
      | (refine sta 1 ?_;refine stk (fun h=>kb (.cons 0 rfl (.cons 1 rfl (.cons 1 rfl .nil))) (qF 0 rfl qA) h) ?_)
      | (refine sta 2 ?_;refine stk (fun h=>qf qli h) ?_)
      | (refine sta 3 ?_;refine stk (fun h=>qf qlx h) ?_)
      | (refine sta 4 ?_;refine stk (fun h=>qf (fun h=>qoi F _ _ _ _ h) h) ?_)
      | (refine sta 5 ?_;refine stk (fun h=>qE 0 (qs .i64) rfl UnF.u inferInstance rfl rfl rfl rfl rfl (.inr ⟨2,rfl⟩) rfl rfl h) ?_)
      | (refine sta 6 ?_;refine stk (fun h=>qf qmU h) ?_)
      | (refine sta 7 ?_;refine stk (fun h=>qf qka h) ?_)
      | (refine sta 8 ?_;refine stk (fun h=>qf qmR h) ?_)
      | (refine sta 9 ?_;refine stk (fun h=>quH h) ?_)
      | (refine sta 10 ?_;refine stk (fun h=>qf qlK h) ?_)
      | (refine sta 11 ?_;refine stk (fun h=>qgU (j:=1) rfl UnF.u inferInstance rfl rfl rfl rfl h) ?_))
    | apply stm 45 [0,2]
    | apply stm 46 [5,0,2]
    | apply stm 47 [3,4]
    | apply stm 48 [3,4,1]
    | apply stm 49 [5,0,2,10]
    | apply stm 50 [24,0,11]
    | apply stm 51 [0,2,8]
    | apply stm 52 [17,24,6]
    | apply stm 53 [3,4,5,0,2]
    | apply stm 54 [24,5,17]
    | apply stm 55 [5,0,2,10,11]
    | apply stm 56 [6,6]
    | apply stm 57 [12,20]
    | apply stm 58 [3,4,24,3]
    | apply stm 59 [13,13]
    | apply stm 60 [3,4,1,1]
    | apply stm 61 [6,6,6,6]
    | apply stm 62 [0,19]
    | apply stm 63 [24,5,17,17,24,6]
    | apply stm 64 [3,3,4,1]
    | apply stm 65 [24,7,0,2,8]
    | apply stm 66 [9,2]
    | apply stm 67 [5,5,0,2]
    | apply stm 68 [24,11,0,2,8]
    | apply stm 69 [12,25,10]
    | apply stm 70 [24,7,24,2]
    | apply stm 71 [25,2,0,2,8]
    | apply stm 72 [7,0,7,1]
    | apply stm 73 [5,0,2,10,18]
    | apply stm 74 [24,1,0]
    | apply stm 75 [23,0,2,8]
    | apply stm 76 [24,2,0]
    | apply stm 77 [24,12,3,4,24,3]
    | apply stm 78 [1,16]
    | apply stm 79 [1,13,13]
    | apply stm 80 [3,4,24,8]
    | apply stm 81 [25,11,25,11]
    | apply stm 82 [5,0,2,10,11,18]
    | apply stm 83 [24,10,0,2]
    | apply stm 84 [0,22]
    | apply stm 85 [1,24,13]
    | apply stm 86 [24,0,11,11]
    | apply stm 87 [24,12,3,4,5,0,2]
    | apply stm 88 [25,9,12]
    | apply stm 89 [9,2,3]
    | apply stm 90 [9,2,3,14]
    | apply stm 91 [1,1]
    | apply stm 92 [24,0,11,11,24,0,11]
    | apply stm 93 [3,4,5]
    | apply stm 94 [3,4,12,20]
    | apply stm 95 [5,0,22]
    | apply stm 96 [5,0,2,10,11,25,1]
    | apply stm 97 [24,11,24,1]
    | apply stm 98 [14,26,2]
    | apply stm 99 [4,1,1]
    | apply stm 100 [25,13,26,12]
    | apply stm 101 [24,10,5,0,2]
    | apply stm 102 [25,4,0,2,8]
    | apply stm 103 [12,24,8]
    | apply stm 104 [25,15,3,4,24,3]
    | apply stm 105 [7,0,7,1,7,2]
    | apply stm 106 [24,11,1]
    | apply stm 107 [3,4,25,5]
    | apply stm 108 [25,8,3,4,24,3]
    | apply stm 109 [25,8,3,4,5,0,2]
    | apply stm 110 [15,11,15,12]
    | apply stm 111 [1,13,13,25,0]
    | apply stm 112 [7,12,7,13]
    | apply stm 113 [6,24,1]
    | apply stm 114 [5,5,0,2,3,3,4,1]
    | apply stm 115 [3,4,1,1,21]
    | apply stm 116 [3,4,1,1,21,23,0,2,8]
    | apply stm 117 [6,6,24,1]
    | apply stm 118 [15,9,15,10]
    | apply stm 119 [24,5,17,17,24,6,26,5]
    | apply stm 120 [5,26,4]
    | apply stm 121 [3,4,1,21]
    | apply stm 122 [3,4,23]
    | apply stm 123 [3,4,23,0,2]
    | apply stm 124 [24,12,3,4]
    | apply stm 125 [24,10,0]
    | apply stm 126 [3,4,23,0,2,3]
    | apply stm 127 [3,4,23,0,2,3,8]
    | apply stm 128 [12,25,5]
    | apply stm 129 [1,13,13,13]
    | apply stm 130 [7,5,7,6]
    | apply stm 131 [25,9,12,20]
    | apply stm 132 [25,6,5,0,2,10,11]
    | apply stm 133 [24,4,3,25,12,4]
    | apply stm 134 [24,4,0,25,12,1]
    | apply stm 135 [24,15,16])):Stv p B A:=⟨fun h=>(t h).go⟩
theorem au (p:List Nat){A B:Prop}(h:B)(t:Stv p B A:=by exact au0 _):A:=t.go h
theorem av (p:List Nat){A B C:Prop}(h:B)(k:C)(t:Stv p (B∧C) A:=by exact au0 _):A:=t.go ⟨h,k⟩
theorem az (p:List Nat){A:Prop}(t:Stv p True A:=by exact au0 _):A:=t.go trivial
set_option maxHeartbeats 4000000 in
theorem qlD {F:Nat}{x1:List (qAq)}{a2:qAr}{c3:Nat}{s3:List (qAr×Nat)}{r:Int}(hm:qez F x1=some r) :
    Pure Tryz.prog 40 [.agg #[.slice a2 x1.length c3]] [SlN eN39 iN39 1 (.slice a2 x1.length c3) x1 s3] Unit (fun _=>qAs r) (fun _=>[]) (fun _=>[]):=by
 refine qi Tryz.func40 rfl Tryz.ntmps40 rfl hm (fun w=>?_)
 refine au [108] ?_
 intro g4
 refine av [46,94,21,46,64,65] ?_ ?_
 intro _
 exact az [47,82]
 intro _
 refine au [66,53] ?_
 refine qd (fun ((x0,_):(Int×Unit))=>([(4,qAs x0)],[],[],[],qdN F x0)) ?_ ?_
 refine au [94,21,1,45,14] ?_
 refine ql (fun (((x2,x3),_):((Int×Int)×Unit))=>([(3,qAs (x1.length:Int)),(4,qAs x2),(16,.slice a2 x1.length c3),(17,qAs (x1.length:Int)),(18,qAs x3)],[],[],[SlN eN39 iN39 1 (.slice a2 x1.length c3) x1 s3])) (fun k (s:((Int×Int)×Unit))=>zi F x1 k s.1) ((0,0),()) F ?_
 intro k0
 rintro ⟨⟨x2,x3⟩,_⟩
 try dsimp only
 refine qp (m':=qbC F x1 (zi F x1 k0) x2 x3) rfl ?_
 refine av [127] ?_ ?_
 intro _
 refine au [66] ?_
 refine qd (fun ((x4,_):(Int×Unit))=>([(3,qAs (x1.length:Int)),(4,qAs x4),(16,.slice a2 x1.length c3),(17,qAs (x1.length:Int)),(18,qAs x3)],[],[],[SlN eN39 iN39 1 (.slice a2 x1.length c3) x1 s3],qdO F (zi F x1 k0) x3 x4)) ?_ ?_
 refine au [14,47,27,0] ?_
 intro x5 e0 g0 b0 o0
 refine au [25,3,46,53] ?_
 refine qd (fun ((_,_):(Unit×Unit))=>([(3,qAs (x1.length:Int)),(4,qAs x2),(6,.slice g0.1 x5.length g0.2),(16,.slice a2 x1.length c3),(17,qAs (x1.length:Int)),(18,qAs x3)],[],[],[Sl (eI .i64) 1 (.slice g0.1 x5.length g0.2) x5,SlN eN39 iN39 1 (.slice a2 x1.length c3) x1 s3],qbE F (zi F x1 k0) x2 x3 x5)) ?_ ?_
 refine au [121,1,45,14] ?_
 refine ql (fun (((x6,x7),_):((Int×Int)×Unit))=>([(3,qAs (x1.length:Int)),(4,qAs x2),(6,.slice g0.1 x5.length g0.2),(7,qAs x6),(16,.slice a2 x1.length c3),(17,qAs (x1.length:Int)),(18,qAs x3),(22,.slice g0.1 x5.length g0.2),(23,qAs (x5.length:Int)),(24,qAs x7)],[],[],[Sl (eI .i64) 1 (.slice g0.1 x5.length g0.2) x5,SlN eN39 iN39 1 (.slice a2 x1.length c3) x1 s3])) (fun k (s:((Int×Int)×Unit))=>yI F (zi F x1 k0) x1 x2 x3 x5 k s.1) ((-1,0),()) F ?_
 intro k1
 rintro ⟨⟨x6,x7⟩,_⟩
 try dsimp only
 refine qp (m':=qbD F (zi F x1 k0) x1 x2 x3 x5 (yI F (zi F x1 k0) x1 x2 x3 x5 k1) x6 x7) rfl ?_
 refine av [127] ?_ ?_
 intro _
 refine au [90,47,25,14] ?_
 intro x8 e1 b1 o1
 refine au [25,3,46,3,14,48,23,1] ?_
 refine qq 4 (decide (x8<0)) [(3,qAs (x1.length:Int)),(4,qAs x2),(6,.slice g0.1 x5.length g0.2),(7,qAs x6),(16,.slice a2 x1.length c3),(17,qAs (x1.length:Int)),(18,qAs x3),(22,.slice g0.1 x5.length g0.2),(23,qAs (x5.length:Int)),(24,qAs x7),(9,qAs x8),(35,.bool ((decide (x8<0)) || (decide ((x1.length:Int)≤x8))))] (fun h0=>?_) (fun h0=>?_) ?_
 refine qb (os:=_) rfl (qk (k:=31) rfl h0 ?_)
 refine au [56,113] ?_
 refine qc (d:=35) (v:=.bool ((decide (x8<0)) || (decide ((x1.length:Int)≤x8)))) rfl (by rw[h0];simp only[qx0]) ?_
 exact az [62]
 refine qb (os:=_) rfl (qj (k:=31) rfl h0 ?_)
 refine au [91,26,3,24,2] ?_
 refine qc (d:=35) (v:=.bool ((decide (x8<0)) || (decide ((x1.length:Int)≤x8)))) rfl (by rw[h0];simp only[qxU]) ?_
 exact az [62]
 refine qb (os:=_) rfl ?_
 refine av [46,8] ?_ ?_
 intro _
 exact az [47,49,50,92,92,18]
 intro _
 refine av [60,26,7,46,8] ?_ ?_
 intro _
 exact az [47,49,50,92,92,18]
 intro _
 refine au [9,22,2,4,1,95,2,4,16,1,0] ?_
 exact qg ((x8,iadd .i64 x7 1),())
 intro _
 exact az [119]
 rintro ⟨_,_⟩
 try dsimp only
 refine au [99,21,16,95] ?_
 exact qa (iadd .i64 x2 (x5.length:Int),())
 rintro ⟨x4,_⟩
 try dsimp only
 refine au [4,16,1,0] ?_
 exact qg ((x4,iadd .i64 x3 1),())
 intro _
 refine au [63] ?_
 exact qa (x2,())
 rintro ⟨x0,_⟩
 try dsimp only
 refine av [64,65] ?_ ?_
 intro _
 exact az [47,82]
 intro _
 exact az [66,47,73]
set_option maxHeartbeats 4000000 in
theorem qne {F:Nat}{x1:Int}{x2:Int}{x3:Int}{r:Int}(hm:qcx F x1 x2 x3=some r) :
    Pure Tryz.prog 70 [.agg #[qAs x1,qAs x2,qAs x3]] [] Unit (fun _=>qAs r) (fun _=>[]) (fun _=>[]):=by
 refine qi Tryz.func70 rfl Tryz.ntmps70 rfl hm (fun w=>?_)
 refine au [108] ?_
 intro g4
 refine au [46,3,94,23,1] ?_
 refine qq 4 (decide (x1<0)) [(1,.pointer (some ⟨g4,0,none⟩)),(10,.bool ((decide (x1<0)) || (decide (7<x1))))] (fun h12=>?_) (fun h12=>?_) ?_
 refine qb (os:=_) rfl (qk (k:=6) rfl h12 ?_)
 refine au [56,113] ?_
 refine qc (d:=10) (v:=.bool ((decide (x1<0)) || (decide (7<x1)))) rfl (by rw[h12];simp only[qx0]) ?_
 exact az [62]
 refine qb (os:=_) rfl (qj (k:=6) rfl h12 ?_)
 refine au [57,70] ?_
 refine qc (d:=10) (v:=.bool ((decide (x1<0)) || (decide (7<x1)))) rfl (by rw[h12];simp only[qxU]) ?_
 exact az [62]
 refine qb (os:=_) rfl ?_
 refine au [1] ?_
 refine qq 4 ((decide (x1<0)) || (decide (7<x1))) [(1,.pointer (some ⟨g4,0,none⟩)),(15,.bool (((decide (x1<0)) || (decide (7<x1))) || (decide (x2<0))))] (fun h13=>?_) (fun h13=>?_) ?_
 refine qb (os:=_) rfl (qk (k:=11) rfl h13 ?_)
 refine au [56,113] ?_
 refine qc (d:=15) (v:=.bool (((decide (x1<0)) || (decide (7<x1))) || (decide (x2<0)))) rfl (by rw[h13];simp only[qx0]) ?_
 exact az [62]
 refine qb (os:=_) rfl (qj (k:=11) rfl h13 ?_)
 refine au [57,23,24,2] ?_
 refine qc (d:=15) (v:=.bool (((decide (x1<0)) || (decide (7<x1))) || (decide (x2<0)))) rfl (by rw[h13];simp only[qxU]) ?_
 exact az [62]
 refine qb (os:=_) rfl ?_
 refine au [1] ?_
 refine qq 4 (((decide (x1<0)) || (decide (7<x1))) || (decide (x2<0))) [(1,.pointer (some ⟨g4,0,none⟩)),(20,.bool ((((decide (x1<0)) || (decide (7<x1))) || (decide (x2<0))) || ((x2:Int) == 1)))] (fun h14=>?_) (fun h14=>?_) ?_
 refine qb (os:=_) rfl (qk (k:=16) rfl h14 ?_)
 refine au [56,113] ?_
 refine qc (d:=20) (v:=.bool ((((decide (x1<0)) || (decide (7<x1))) || (decide (x2<0))) || ((x2:Int) == 1))) rfl (by rw[h14];simp only[qx0]) ?_
 exact az [62]
 refine qb (os:=_) rfl (qj (k:=16) rfl h14 ?_)
 refine au [57,24,11,24,2] ?_
 refine qc (d:=20) (v:=.bool ((((decide (x1<0)) || (decide (7<x1))) || (decide (x2<0))) || ((x2:Int) == 1))) rfl (by rw[h14];simp only[qxU]) ?_
 exact az [62]
 refine qb (os:=_) rfl ?_
 refine au [1] ?_
 refine qq 4 ((((decide (x1<0)) || (decide (7<x1))) || (decide (x2<0))) || ((x2:Int) == 1)) [(1,.pointer (some ⟨g4,0,none⟩)),(25,.bool (((((decide (x1<0)) || (decide (7<x1))) || (decide (x2<0))) || ((x2:Int) == 1)) || (decide (300<x2))))] (fun h15=>?_) (fun h15=>?_) ?_
 refine qb (os:=_) rfl (qk (k:=21) rfl h15 ?_)
 refine au [56,113] ?_
 refine qc (d:=25) (v:=.bool (((((decide (x1<0)) || (decide (7<x1))) || (decide (x2<0))) || ((x2:Int) == 1)) || (decide (300<x2)))) rfl (by rw[h15];simp only[qx0]) ?_
 exact az [62]
 refine qb (os:=_) rfl (qj (k:=21) rfl h15 ?_)
 refine au [57,70] ?_
 refine qc (d:=25) (v:=.bool (((((decide (x1<0)) || (decide (7<x1))) || (decide (x2<0))) || ((x2:Int) == 1)) || (decide (300<x2)))) rfl (by rw[h15];simp only[qxU]) ?_
 exact az [62]
 refine qb (os:=_) rfl ?_
 refine au [1] ?_
 refine qq 4 (((((decide (x1<0)) || (decide (7<x1))) || (decide (x2<0))) || ((x2:Int) == 1)) || (decide (300<x2))) [(1,.pointer (some ⟨g4,0,none⟩)),(30,.bool ((((((decide (x1<0)) || (decide (7<x1))) || (decide (x2<0))) || ((x2:Int) == 1)) || (decide (300<x2))) || (decide (x3<1))))] (fun h16=>?_) (fun h16=>?_) ?_
 refine qb (os:=_) rfl (qk (k:=26) rfl h16 ?_)
 refine au [56,113] ?_
 refine qc (d:=30) (v:=.bool ((((((decide (x1<0)) || (decide (7<x1))) || (decide (x2<0))) || ((x2:Int) == 1)) || (decide (300<x2))) || (decide (x3<1)))) rfl (by rw[h16];simp only[qx0]) ?_
 exact az [62]
 refine qb (os:=_) rfl (qj (k:=26) rfl h16 ?_)
 refine au [57,23,24,2] ?_
 refine qc (d:=30) (v:=.bool ((((((decide (x1<0)) || (decide (7<x1))) || (decide (x2<0))) || ((x2:Int) == 1)) || (decide (300<x2))) || (decide (x3<1)))) rfl (by rw[h16];simp only[qxU]) ?_
 exact az [62]
 refine qb (os:=_) rfl ?_
 refine au [1] ?_
 refine qq 4 ((((((decide (x1<0)) || (decide (7<x1))) || (decide (x2<0))) || ((x2:Int) == 1)) || (decide (300<x2))) || (decide (x3<1))) [(35,.bool (((((((decide (x1<0)) || (decide (7<x1))) || (decide (x2<0))) || ((x2:Int) == 1)) || (decide (300<x2))) || (decide (x3<1))) || (decide (16<x3))))] (fun h17=>?_) (fun h17=>?_) ?_
 refine qb (os:=_) rfl (qk (k:=31) rfl h17 ?_)
 refine au [56,113] ?_
 refine qc (d:=35) (v:=.bool (((((((decide (x1<0)) || (decide (7<x1))) || (decide (x2<0))) || ((x2:Int) == 1)) || (decide (300<x2))) || (decide (x3<1))) || (decide (16<x3)))) rfl (by rw[h17];simp only[qx0]) ?_
 exact az [62]
 refine qb (os:=_) rfl (qj (k:=31) rfl h17 ?_)
 refine au [57,70] ?_
 refine qc (d:=35) (v:=.bool (((((((decide (x1<0)) || (decide (7<x1))) || (decide (x2<0))) || ((x2:Int) == 1)) || (decide (300<x2))) || (decide (x3<1))) || (decide (16<x3)))) rfl (by rw[h17];simp only[qxU]) ?_
 exact az [62]
 refine qb (os:=_) rfl ?_
 refine av [51] ?_ ?_
 intro _
 exact az [47,82]
 intro _
 exact az [66,47,73]
theorem qfY {F:Nat}{x1:qAq}{a2:qAr}{c3:Nat}{r:qAq}(hm:yr F x1=some r) :
    Pure Tryz.prog 173 [.slice a2 x1.length c3] [Sl (eI .u8) 1 (.slice a2 x1.length c3) x1] (qAr×Nat) (fun g=>.slice g.1 r.length g.2) (fun g=>[Ro (eI .u8) 5 1 (.slice g.1 r.length g.2) r]) (fun _=>[]):=by
 refine qi Tryz.func173 rfl Tryz.ntmps173 rfl hm (fun w=>?_)
 refine av [109,64,31,12,45,31,13] ?_ ?_
 intro h11
 refine qpy 0 (qs .u8) (by decide) rfl h11 (fun h12=>?_)
 subst h12
 refine qp (m':=some ([]:qAq)) rfl ?_
 refine au [47,55,25,11] ?_
 exact qm (none,0)
 intro _
 refine au [66,47] ?_
 refine qx (vs:=[]) (ys:=([]:qAq)) (qs .u8) (by decide) rfl UnF.u inferInstance rfl rfl rfl rfl rfl (by decide) ?_
 intro a6 c7
 refine au [1] ?_
 refine qE 0 (qs .u8) rfl UnF.u inferInstance rfl rfl rfl rfl rfl (.inr ⟨0,rfl⟩) rfl rfl ?_
 intro x8 e8 a9 c10
 refine au [49] ?_
 exact qm (a9,c10)
theorem qpS {F:Nat}{x1:Int}{x2:qAq}{a3:qAr}{c4:Nat}{r:(Int×qAq)}(hm:qfn F x1 x2=some r) :
    PureM Tryz.prog 140 [.agg #[qAs x1,.slice a3 x2.length c4]] [] [] [Sl (eI .u8) 1 (.slice a3 x2.length c4) x2] ((qAr×Nat)×Nat) (fun g=>.pointer (some ⟨g.2,0,none⟩)) (fun g=>[⟨g.2,215,[qAs r.1,.slice g.1.1 r.2.length g.1.2]⟩]) (fun g=>[Ro (eI .u8) 5 1 (.slice g.1.1 r.2.length g.1.2) r.2]):=by
 refine zS Tryz.func140 rfl Tryz.ntmps140 rfl hm (fun w=>?_)
 refine au [108] ?_
 intro g5
 refine au [46,3] ?_
 refine qB mixed [] [⟨g5,29,[qAs x1,.slice a3 x2.length c4]⟩] [Sl (eI .u8) 1 (.slice a3 x2.length c4) x2] (.cons 0 rfl .nil) (qF 0 rfl qA) 9 rfl ?_
 refine au [134,24,4,2,25,12,3,24,9,4] ?_
 refine qf qfY ?_
 rintro x10 e10 ⟨a11,c12⟩
 refine au [0,28,1] ?_
 refine qo 5 (.agg #[qAs x1,.slice a11 x10.length c12]) rfl rfl rfl (qgr (cells:=[qAs x1,.slice a11 x10.length c12]) st29 rfl (by kernel_rfl)) (qo 6 (.agg #[qAs x1,.slice a11 x10.length c12]) rfl rfl rfl (qgr (cells:=[qAs x1,.slice a11 x10.length c12]) st215 rfl (by kernel_rfl)) ?_)
 refine au [24,9,7,24,3] ?_
 intro g13
 refine au [0] ?_
 refine kb (.cons 1 rfl .nil) (qF 0 rfl qA) ?_
 refine au [7,8,24,14] ?_
 refine qM ?_ (by intro c h;cases h)
 refine au [2,10] ?_
 exact zP ((a11,c12),g13)
theorem qlA {F:Nat}{x1:Int}{x2:qAq}{a3:qAr}{c4:Nat}{x5:Int}{x6:Int}{r:Unit}(hm:qf6 F x1 x2 x5 x6=some r) :
    PureM Tryz.prog 141 [.agg #[qAs x1,.slice a3 x2.length c4],qAs x5,qAs x6] [] [] [Sl (eI .u8) 1 (.slice a3 x2.length c4) x2] (Nat×Nat×Nat) (fun g=>.func (.func 174) #[] #[.pointer (some ⟨g.1,0,none⟩),.pointer (some ⟨g.2.1,0,none⟩),.pointer (some ⟨g.2.2,0,none⟩)]) (fun g=>[⟨g.1,3,[qAs x5]⟩,⟨g.2.1,3,[qAs x6]⟩,⟨g.2.2,29,[qAs x1,.slice a3 x2.length c4]⟩]) (fun _=>[]):=by
 refine zS Tryz.func141 rfl Tryz.ntmps141 rfl hm (fun w=>?_)
 refine au [104] ?_
 intro g7
 refine au [24,3] ?_
 intro g8
 refine au [24,3] ?_
 intro g9
 refine au [46,47,29,0,49] ?_
 exact zP (g8,g9,g7)
set_option maxHeartbeats 4000000 in
theorem qiy {F:Nat}{g1:Nat}{x2:Int}{x3:qAq}{a4:qAr}{c5:Nat}{x6:Int}{r:(Int×qAq)}(hm:jo F x2 x3 x6=some r) :
    PureM Tryz.prog 142 [.pointer (some ⟨g1,0,none⟩),.int .u64 x6] [⟨g1,215,[qAs x2,.slice a4 x3.length c5]⟩] [Ro (eI .u8) 5 1 (.slice a4 x3.length c5) x3] [] (qAr×Nat) (fun _=>.tuple #[]) (fun g=>[⟨g1,215,[qAs r.1,.slice g.1 r.2.length g.2]⟩]) (fun g=>[Ro (eI .u8) 5 1 (.slice g.1 r.2.length g.2) r.2]):=by
 refine zS Tryz.func142 rfl Tryz.ntmps142 rfl hm (fun w=>?_)
 refine au [24,12] ?_
 refine qd (fun ((x15,(a13,c14)):(qAq×(qAr×Nat)))=>([(0,.pointer (some ⟨g1,0,none⟩)),(1,.int .u64 x6)],[⟨g1,215,[qAs x2,.slice a13 x15.length c14]⟩],[Ro (eI .u8) 5 1 (.slice a13 x15.length c14) x15],[],yu F x2 x6 x15)) ?_ ?_
 refine av [48,88,57,27,1,68] ?_ ?_
 intro _
 refine au [99,88,57] ?_
 refine qx (vs:=[.int .u8 0]) (ys:=([0]:qAq)) (qs .u8) (by decide) rfl Tryz.underlying27 tf5 rfl rfl rfl rfl rfl (by decide) (fun a44 c45=>qE 1 (qs .u8) rfl Tryz.underlying27 tf5 rfl rfl rfl rfl rfl (.inl ⟨0,_,rfl⟩) rfl rfl (fun x46 e46 a47 c48=>?_))
 refine au [88,12,125] ?_
 exact qa (x46,(a47,c48))
 intro _
 refine au [9] ?_
 exact qa (x3,(a4,c5))
 rintro ⟨x15,⟨a13,c14⟩⟩
 try dsimp only
 refine au [3,29,13] ?_
 intro x30 e30 g31 h32
 replace h32:a13=some ⟨g31,0,none⟩:=h32
 have h33:=qhi (k:=x15.length) (c:=c14) h32
 refine au [27,5] ?_
 intro h34
 refine au [29,13] ?_
 intro x36 e36 g37 h38
 replace h38:a13=some ⟨g37,0,none⟩:=h38
 have h39:=qhi (k:=x15.length) (c:=c14) h38
 refine qB mixed [25] [⟨g1,215,[qAs x2,.slice a13 x15.length c14]⟩] [qv g31 ((iquo .i64 x2 8).toNat*1) ((eI .u8) x30),qv g37 ((iquo .i64 x2 8).toNat*1) ((eI .u8) x36)] (.cons 0 rfl .nil) (qil 0 rfl (qdm (qs .u8) e30 h32) (qil 0 rfl (qdm (qs .u8) e36 h38) qA)) 26 rfl ?_
 refine au [72,24,4,2,133,130,24,4,7,24,4,8,25,12,9] ?_
 refine qo 10 (qAs (iquo .i64 x2 8)) rfl rfl rfl (qxc rfl rfl rfl) (qh (d:=26) (v:=.slice (some ⟨g31,0,none⟩) x15.length c14) rfl (by rw[h32] <;> rfl) (qo 11 (.pointer (some ⟨g31,(iquo .i64 x2 8).toNat*1,none⟩)) rfl rfl rfl (qgY Tryz.underlying27 tf5 rfl rfl (qQ e30).1 (kC e30)) (qh (d:=26) (v:=.slice a13 x15.length c14) rfl (by rw[h32] <;> rfl) (qJ 12 (.int .u8 x30) [[25]] rfl rfl rfl (zJ (j:=0) rfl tf5 rfl rfl (fun _=>rfl) rfl) ?_))))
 refine au [7,13] ?_
 refine qo 14 (.int .u64 (ishl .u64 x6 7)) rfl rfl rfl (qhw rfl rfl rfl) ?_
 refine au [28,9,15,7,16,7,17,24,4,18,24,4,19,25,12,20] ?_
 refine qo 21 (qAs (irem x2 8)) rfl rfl rfl (qoe rfl rfl rfl) (qo 22 (.int .u8 (ishr .u8 (iconv .u8 (ishl .u64 x6 7)) (irem x2 8))) rfl rfl rfl (qxd rfl rfl h34) ?_)
 refine au [7,23] ?_
 refine qh (d:=26) (v:=.slice (some ⟨g37,0,none⟩) x15.length c14) rfl (by rw[h38] <;> rfl) (qo 24 (.pointer (some ⟨g37,(iquo .i64 x2 8).toNat*1,none⟩)) rfl rfl rfl (qgY Tryz.underlying27 tf5 rfl rfl (qQ e36).1 (kC e36)) (qh (d:=26) (v:=.slice a13 x15.length c14) rfl (by rw[h38] <;> rfl) ?_))
 refine au [24,9,25] ?_
 refine qgW (j:=0) (y':=ior .u8 x30 (ishr .u8 (iconv .u8 (ishl .u64 x6 7)) (irem x2 8))) (qs .u8) rfl rfl rfl tf5 rfl (qhi h38) (qQ e36).2.1 rfl (fun x41 e41 h42=>?_)
 have h43:x41.length=x15.length:=by rw[← e41,List.length_set]
 refine qc (d:=26) (v:=.slice a13 x41.length c14) rfl h42 (qn5 (i:=0) (cs':=[qAs x2,.slice a13 x41.length c14]) rfl (by rw[h42] <;> rfl) ?_)
 refine au [0] ?_
 refine qeO 25 rfl (by kernel_rfl) (.cons 0 (by rw[h43];rfl) .nil) ?_
 refine au [24,14] ?_
 refine qM ?_ (by intro c h;cases h)
 refine au [2,4,1,88,57,16,88,12,125] ?_
 exact zP (a13,c14)
theorem qsd {F:Nat}{x1:Int}{x2:qAq}{a3:qAr}{c4:Nat}{x5:Int}{r:Int}(hm:qbb F x1 x2 x5=some r) :
    Pure Tryz.prog 117 [.agg #[qAs x1,.slice a3 x2.length c4],qAs x5] [Sl (eI .u8) 1 (.slice a3 x2.length c4) x2] Unit (fun _=>.int .u64 r) (fun _=>[]) (fun _=>[]):=by
 refine qi Tryz.func117 rfl Tryz.ntmps117 rfl hm (fun w=>?_)
 refine au [77] ?_
 intro g6
 refine au [46,94,1,26,14,31,14] ?_
 intro x7 e7 b8 o9
 refine au [25,3,1,27,1,24,13,26,0] ?_
 intro h10
 refine qi6 rfl rfl rfl rfl h10 ?_
 refine au [24,15,29,1,120] ?_
 intro x11 e11
 refine qc (d:=4) (v:=.int .u64 x11) rfl (by rw[e11] <;> rfl) ?_
 exact az [45,10,18]
theorem qjN (F:Nat){σ τ:Type}{J:Rounds σ τ}{yy:σ→Int→Option (σ ⊕ τ)}{L:Nat}(hY:YieldC Tryz.prog L (fun (p:Int)=>[.int .u64 p]) J yy)(s0:σ)(gs0:J.γ)(g1:Nat)(x2:Int)(g3:Nat)(x4:Int)(g5:Nat)(x6:Int)(x7:qAq)(a8:qAr)(c9:Nat)(r:σ ⊕ τ)(hm:qeT F yy x2 x4 x6 x7 s0=some r) :
    PureM Tryz.prog 174 ([.func (.yield L) #[] #[],.pointer (some ⟨g1,0,none⟩),.pointer (some ⟨g3,0,none⟩),.pointer (some ⟨g5,0,none⟩)]) ([⟨g1,3,[qAs x2]⟩,⟨g3,3,[qAs x4]⟩,⟨g5,29,[qAs x6,.slice a8 x7.length c9]⟩]++J.IB s0 gs0) (J.IR s0 gs0) [J.F,Sl (eI .u8) 1 (.slice a8 x7.length c9) x7] (J.G r) (fun _=>.tuple #[]) (fun g=>[⟨g1,3,[qAs x2]⟩,⟨g3,3,[qAs x4]⟩,⟨g5,29,[qAs x6,.slice a8 x7.length c9]⟩]++J.bs r g) (fun g=>J.rs r g):=by
 refine zS Tryz.func174 rfl Tryz.ntmps174 rfl hm (fun w=>?_)
 refine au [27,6,47,20,46,14] ?_
 refine qcz (fun (((x22,x23),g24):((Int×σ)×J.γ))=>[(0,.func (.yield L) #[] #[]),(2,.pointer (some ⟨g3,0,none⟩)),(3,.pointer (some ⟨g5,0,none⟩)),(5,qAs x22)]) (fun (((x22,x23),g24):((Int×σ)×J.γ))=>[⟨g1,3,[qAs x2]⟩,⟨g3,3,[qAs x4]⟩,⟨g5,29,[qAs x6,.slice a8 x7.length c9]⟩]++J.IB x23 g24) (fun (((x22,x23),g24):((Int×σ)×J.γ))=>[]++J.IR x23 g24) (fun (((x22,x23),g24):((Int×σ)×J.γ))=>[Sl (eI .u8) 1 (.slice a8 x7.length c9) x7,J.F]) (fun k (s:((Int×σ)×J.γ))=>zZ F yy x4 x6 x7 k s.1) ((x2,s0),gs0) F ?_ (hB:=(.cons 0 rfl (.cons 0 rfl (.cons 0 rfl (qH 0 rfl))))) (hR:=(qH 0 rfl)) (hF:=(qG 1 rfl (qG 0 rfl jF)))
 intro k37
 rintro ⟨⟨x22,x23⟩,g24⟩
 try dsimp only
 refine qp (m':=qaE F yy x4 x6 x7 (zZ F yy x4 x6 x7 k37) x22 x23) rfl ?_
 refine av [64,25,10,75] ?_ ?_
 intro _
 refine au [90,48,26,1,1,28,2] ?_
 intro x44 e44 _
 refine qjt hY x23 x44 g24 (B1:=[⟨g1,3,[qAs x2]⟩,⟨g3,3,[qAs x4]⟩,⟨g5,29,[qAs x6,.slice a8 x7.length c9]⟩]) (R1:=[]) (j:=1) rfl rfl rfl rfl rfl rfl rfl (fun x45 _ g47=>?_) (fun x46 _ g47=>?_)
 refine au [25,4,45] ?_
 refine qb3 (b:=false) rfl (fun h=>by cases h) (fun _=>?_)
 refine au [9,22,2,4,78,5,0] ?_
 exact qfH ((iadd .i64 x22 1,x45),g47) (hB:=(.cons 0 rfl (.cons 0 rfl (.cons 0 rfl (qH 0 rfl))))) (hR:=(qH 0 rfl)) (hF:=(qG 0 rfl (qG 1 rfl jF)))
 refine au [25,4,45] ?_
 refine qb3 (b:=true) rfl (fun _=>?_) (fun h=>by cases h)
 refine au [10,86,24,0] ?_
 exact qff (B0:=[⟨g1,3,[qAs x2]⟩,⟨g3,3,[qAs x4]⟩,⟨g5,29,[qAs x6,.slice a8 x7.length c9]⟩]) (x:=.inr x46) g47 (.inl rfl) (res0 rfl) (.cons 0 rfl (.cons 0 rfl (.cons 0 rfl (qH 0 rfl)))) (qH 0 rfl)
 intro _
 refine au [63] ?_
 exact qff (B0:=[⟨g1,3,[qAs x2]⟩,⟨g3,3,[qAs x4]⟩,⟨g5,29,[qAs x6,.slice a8 x7.length c9]⟩]) (x:=.inl x23) g24 (.inr rfl) (res0 rfl) (.cons 0 rfl (.cons 0 rfl (.cons 0 rfl (qH 0 rfl)))) (qH 0 rfl)
set_option maxHeartbeats 4000000 in
theorem qon {F:Nat}{x1:Int}{x2:qAq}{a3:qAr}{c4:Nat}{x5:Int}{x6:qAq}{a7:qAr}{c8:Nat}{r:(Int×qAq)}(hm:qaj F x1 x2 x5 x6=some r) :
    PureM Tryz.prog 103 [.agg #[qAs x1,.slice a3 x2.length c4],.agg #[qAs x5,.slice a7 x6.length c8]] [] [] [Sl (eI .u8) 1 (.slice a3 x2.length c4) x2,Sl (eI .u8) 1 (.slice a7 x6.length c8) x6] (qAr×Nat) (fun g=>.agg #[qAs r.1,.slice g.1 r.2.length g.2]) (fun _=>[]) (fun g=>[Ro (eI .u8) 5 1 (.slice g.1 r.2.length g.2) r.2]):=by
 refine qkO Tryz.func103 rfl Tryz.ntmps103 rfl hm (fun w=>?_)
 refine au [77] ?_
 intro g9
 refine au [24,3] ?_
 intro g10
 refine au [25,0] ?_
 intro g11
 refine au [45,47,26,1,31,15] ?_
 rintro x12 e12 ⟨⟨a13,c14⟩,g15⟩
 refine au [25,0] ?_
 intro g16
 refine au [83,3,47,29,2,12,28,10] ?_
 refine zg qlA ?_
 rintro x37 e37 ⟨g38,g39,g40⟩
 refine au [45,14] ?_
 refine qjr (encs:=(fun (p:Int)=>[.int .u64 p])) (y:=(fun ((x45,x48):(Int×qAq)) (x53:Int)=>qbX F x45 x48 x53)) (lb:=[.pointer (some ⟨g38,0,none⟩),.pointer (some ⟨g39,0,none⟩),.pointer (some ⟨g40,0,none⟩)]) (fun ((x45,x48):(Int×qAq)) ((a46,c47):(qAr×Nat))=>[⟨g16,209,[.pointer (some ⟨g15,0,none⟩)]⟩,⟨g15,215,[qAs x45,.slice a46 x48.length c47]⟩,⟨g11,29,[qAs 0,.slice none 0 0]⟩,⟨g10,29,[qAs x5,.slice a7 x6.length c8]⟩,⟨g9,29,[qAs x1,.slice a3 x2.length c4]⟩]) (fun ((x45,x48):(Int×qAq)) ((a46,c47):(qAr×Nat))=>[Ro (eI .u8) 5 1 (.slice a46 x48.length c47) x48]) (fun (_:Empty) (_:Unit)=>[]) (fun (_:Empty) (_:Unit)=>[]) (fun _=>.skip) (x12.1,x12.2) (a13,c14) rfl ent174 (fun _=>rfl) rfl (.cons 0 rfl (.cons 0 rfl (.cons 0 rfl .nil))) (.cons 0 rfl (.cons 0 rfl (.cons 0 rfl (.cons 0 rfl (.cons 0 rfl .nil))))) (.cons 0 rfl .nil) (.consF 1 rfl .nil) (fun z hz _ _ _ hY=>qjN F hY (x12.1,x12.2) (a13,c14) g38 0 g39 x5 g40 x5 x6 a7 c8 z hz) ?_ ?_ ?_
 rintro rc1 L1 D1 ⟨x45,x48⟩ ⟨a46,c47⟩ x53 z w M _
 try dsimp only
 refine qk6 [(0,.agg #[qAs x1,.slice a3 x2.length c4]),(1,.agg #[qAs x5,.slice a7 x6.length c8]),(2,.pointer (some ⟨g9,0,none⟩)),(3,.pointer (some ⟨g10,0,none⟩)),(4,.pointer (some ⟨g11,0,none⟩)),(5,.pointer (some ⟨g16,0,none⟩)),(7,.agg #[qAs x1,.slice a3 x2.length c4]),(8,.pointer (some ⟨g15,0,none⟩)),(9,.agg #[qAs x5,.slice a7 x6.length c8]),(10,.pointer (some ⟨g10,0,none⟩)),(11,qAs x5),(12,.func (.func 174) #[] #[.pointer (some ⟨g38,0,none⟩),.pointer (some ⟨g39,0,none⟩),.pointer (some ⟨g40,0,none⟩)]),(13,.int .u64 x53)] (zo rfl (zo rfl (zo rfl (zo rfl (zo rfl (zo rfl (zo rfl (zo rfl (zo rfl (zo rfl (zo rfl (zo rfl (zo rfl qip))))))))))))) ?_
 refine au [4,5,0] ?_
 refine qju (i:=5) rfl ?_
 refine au [14,4,20,1,32,0] ?_
 rintro x54 e54 ⟨a55,c56⟩
 refine au [84] ?_
 exact qgq (rc:=rc1) rfl (.cons 5 rfl .nil) rfl (a55,c56) (.cons 2 rfl (.cons 1 rfl (.cons 1 rfl (.cons 1 rfl (.cons 1 rfl (.cons 0 rfl (.cons 0 rfl .nil))))))) (.cons 0 rfl .nil)
 rintro ⟨x45,x48⟩ _ ⟨a46,c47⟩ D1
 try dsimp only
 refine au [22,2,47] ?_
 refine yq (i:=4) rfl rfl inferInstance rfl rfl (fun _=>rfl) rfl rfl ?_
 refine au [88] ?_
 refine yq (i:=5) rfl rfl inferInstance rfl rfl (by simp) rfl rfl (vH (i:=6) rfl rfl rfl inferInstance rfl rfl rfl rfl rfl ?_)
 refine au [45,10] ?_
 exact qhP [D1] (a46,c47) (.inl rfl) rfl (.cons 0 rfl .nil) (resL (rs:=[.cell 4 29]) rfl (.cell (i:=5) rfl tf29 rfl rfl (by simp) rfl ResOk.nil) rfl) (fun h=>by subst h;rfl) (fun h=>by subst h;exact .nil) (fun h=>by subst h;exact (.cons 0 rfl .nil))
 intro t;exact t.elim
theorem qg7 {F:Nat}{g1:Nat}{x2:Int}{x3:qAq}{a4:qAr}{c5:Nat}{x6:Int}{x7:Int}{r:(Int×qAq)}(hm:jp F x2 x3 x6 x7=some r) :
    PureM Tryz.prog 143 [.pointer (some ⟨g1,0,none⟩),.int .u64 x6,qAs x7] [⟨g1,215,[qAs x2,.slice a4 x3.length c5]⟩] [Ro (eI .u8) 5 1 (.slice a4 x3.length c5) x3] [] (qAr×Nat) (fun _=>.tuple #[]) (fun g=>[⟨g1,215,[qAs r.1,.slice g.1 r.2.length g.2]⟩]) (fun g=>[Ro (eI .u8) 5 1 (.slice g.1 r.2.length g.2) r.2]):=by
 refine zS Tryz.func143 rfl Tryz.ntmps143 rfl hm (fun w=>?_)
 refine au [25,15,48,24,13,46,14] ?_
 refine ql (fun (((x18,x19,x22),(a20,c21)):((Int×Int×qAq)×(qAr×Nat)))=>([(0,.pointer (some ⟨g1,0,none⟩)),(1,.int .u64 x6),(6,qAs x18)],[⟨g1,215,[qAs x19,.slice a20 x22.length c21]⟩],[Ro (eI .u8) 5 1 (.slice a20 x22.length c21) x22],[])) (fun k (s:((Int×Int×qAq)×(qAr×Nat)))=>zV F x6 k s.1) ((isub .i64 x7 1,x2,x3),(a4,c5)) F ?_
 intro k33
 rintro ⟨⟨x18,x19,x22⟩,⟨a20,c21⟩⟩
 try dsimp only
 refine qp (m':=zU F x6 (zV F x6 k33) x18 x19 x22) rfl ?_
 refine av [64,26,3,51] ?_ ?_
 intro _
 refine au [90,99,1,26,0] ?_
 intro h39
 refine qi6 rfl rfl rfl rfl h39 ?_
 refine au [29,1,32,0] ?_
 rintro x40 e40 ⟨a41,c42⟩
 refine au [84,2,4,85,5,0] ?_
 exact qg ((isub .i64 x18 1,x40.1,x40.2),(a41,c42))
 intro _
 refine au [63] ?_
 exact zP (a20,c21)
theorem qpR {F:Nat}{x1:Int}{x2:qAq}{a3:qAr}{c4:Nat}{x5:Int}{x6:Int}{r:(Int×qAq)}(hm:vB F x1 x2 x5 x6=some r) :
    Pure Tryz.prog 105 [.agg #[qAs x1,.slice a3 x2.length c4],.int .u64 x5,qAs x6] [Sl (eI .u8) 1 (.slice a3 x2.length c4) x2] (qAr×Nat) (fun g=>.agg #[qAs r.1,.slice g.1 r.2.length g.2]) (fun g=>[Ro (eI .u8) 5 1 (.slice g.1 r.2.length g.2) r.2]) (fun _=>[]):=by
 refine qi Tryz.func105 rfl Tryz.ntmps105 rfl hm (fun w=>?_)
 refine au [104] ?_
 intro g7
 refine au [25,0] ?_
 intro g8
 refine au [45,107,31,15] ?_
 rintro x9 e9 ⟨⟨a10,c11⟩,g12⟩
 refine au [46,60,1] ?_
 refine zg qg7 ?_
 rintro x13 e13 ⟨a14,c15⟩
 refine au [45,48,88,24,8,25,6,45,10] ?_
 exact qu (a14,c15) (resL (rs:=[.cell 6 29]) rfl (.cell (i:=1) rfl tf29 rfl rfl (by simp) rfl ResOk.nil) rfl) (fun h=>by subst h;exact (.cons 0 rfl .nil))
set_option maxHeartbeats 4000000 in
theorem qiD {F:Nat}{x1:Int}{r:Int}(hm:yJ F x1=some r) :
    Pure Tryz.prog 138 [.int .u64 x1] [] Unit (fun _=>qAs r) (fun _=>[]) (fun _=>[]):=by
 refine qi Tryz.func138 rfl Tryz.ntmps138 rfl hm (fun w=>?_)
 refine au [109] ?_
 refine qd (fun (((x3,x4),_):((Int×Int)×Unit))=>([(0,.int .u64 x3),(2,qAs x4)],[],[],[],yv F x3 x4)) ?_ ?_
 refine av [48,26,3,51] ?_ ?_
 intro _
 refine au [48,28,3,46,4,5,0] ?_
 exact qa ((ishr .u64 x1 32,(32:Int)),())
 intro _
 refine au [9] ?_
 exact qa ((x1,(0:Int)),())
 rintro ⟨⟨x3,x4⟩,_⟩
 try dsimp only
 refine qd (fun (((x6,x7),_):((Int×Int)×Unit))=>([(0,.int .u64 x6),(2,qAs x7)],[],[],[],yw F x6 x7)) ?_ ?_
 refine av [48,26,3,51] ?_ ?_
 intro _
 refine au [48,28,3,46,4,78,5,0] ?_
 exact qa ((ishr .u64 x3 16,iadd .i64 x4 16),())
 intro _
 refine au [9] ?_
 exact qa ((x3,x4),())
 rintro ⟨⟨x6,x7⟩,_⟩
 try dsimp only
 refine qd (fun (((x9,x10),_):((Int×Int)×Unit))=>([(0,.int .u64 x9),(2,qAs x10)],[],[],[],yx F x9 x10)) ?_ ?_
 refine av [48,26,3,51] ?_ ?_
 intro _
 refine au [48,28,3,46,4,78,5,0] ?_
 exact qa ((ishr .u64 x6 8,iadd .i64 x7 8),())
 intro _
 refine au [9] ?_
 exact qa ((x6,x7),())
 rintro ⟨⟨x9,x10⟩,_⟩
 try dsimp only
 refine au [60,24,15] ?_
 refine qqE (xs:=([0,1,2,2,3,3,3,3,4,4,4,4,4,4,4,4,5,5,5,5,5,5,5,5,5,5,5,5,5,5,5,5,6,6,6,6,6,6,6,6,6,6,6,6,6,6,6,6,6,6,6,6,6,6,6,6,6,6,6,6,6,6,6,6,7,7,7,7,7,7,7,7,7,7,7,7,7,7,7,7,7,7,7,7,7,7,7,7,7,7,7,7,7,7,7,7,7,7,7,7,7,7,7,7,7,7,7,7,7,7,7,7,7,7,7,7,7,7,7,7,7,7,7,7,7,7,7,7,8,8,8,8,8,8,8,8,8,8,8,8,8,8,8,8,8,8,8,8,8,8,8,8,8,8,8,8,8,8,8,8,8,8,8,8,8,8,8,8,8,8,8,8,8,8,8,8,8,8,8,8,8,8,8,8,8,8,8,8,8,8,8,8,8,8,8,8,8,8,8,8,8,8,8,8,8,8,8,8,8,8,8,8,8,8,8,8,8,8,8,8,8,8,8,8,8,8,8,8,8,8,8,8,8,8,8,8,8,8,8,8,8,8,8,8,8,8,8,8,8,8,8,8,8,8,8,8]:qAq)) rfl UnF.u rfl rfl (by kernel_rfl) rfl ?_
 intro x11 e11
 exact az [135,73]
theorem qm0 {F:Nat}{x1:Int}{r:Int}(hm:qe1 F x1=some r) :
    Pure Tryz.prog 196 [.int .u64 x1] [] Unit (fun _=>qAs r) (fun _=>[]) (fun _=>[]):=by
 refine qi Tryz.func196 rfl Tryz.ntmps196 rfl hm (fun w=>?_)
 refine au [109,48,16,29,14] ?_
 intro x2 e2 _
 exact az [24,13,73]
theorem qoz {F:Nat}{x1:Int}{r:(Int×qAq)}(hm:qeK F x1=some r) :
    Pure Tryz.prog 197 [.int .u64 x1] [] (qAr×Nat) (fun g=>.agg #[qAs r.1,.slice g.1 r.2.length g.2]) (fun g=>[Ro (eI .u8) 5 1 (.slice g.1 r.2.length g.2) r.2]) (fun _=>[]):=by
 refine qi Tryz.func197 rfl Tryz.ntmps197 rfl hm (fun w=>?_)
 refine au [25,8,47,25,0] ?_
 intro g2
 refine au [45,48,24,15,78,26,14] ?_
 refine quY (qs .u8) rfl UnF.u inferInstance rfl rfl rfl rfl rfl rfl rfl ?_
 intro x3 e3 a4 c5
 refine qr (cells:=[qAs (iconv .i64 x1),.slice a4 x3.length c5]) rfl st29 rfl (by kernel_rfl) rfl ?_
 refine au [27,10] ?_
 rintro x6 e6 ⟨a7,c8⟩
 refine au [83,10] ?_
 exact qu (a7,c8) (resL (rs:=[.cell 2 29]) rfl (.cell (i:=0) rfl tf29 rfl rfl (by simp) rfl ResOk.nil) rfl) (fun h=>by subst h;exact (.cons 0 rfl .nil))
theorem qop {F:Nat}{x1:Int}{x2:Int}{r:Int}(hm:qfN F x1 x2=some r) :
    Pure Tryz.prog 198 [.int .u64 x1,qAs x2] [] Unit (fun _=>.int .u64 r) (fun _=>[]) (fun _=>[]):=by
 refine qi Tryz.func198 rfl Tryz.ntmps198 rfl hm (fun w=>?_)
 refine au [87,60,26,0] ?_
 intro h3
 refine qbU rfl rfl rfl rfl h3 ?_
 refine au [24,13,29,1,120] ?_
 intro x4 e4
 refine qc (d:=4) (v:=.int .u64 x4) rfl (by rw[e4] <;> rfl) ?_
 exact az [45,10,18]
theorem qjb {F:Nat}{x1:Int}{r:(Int×qAq)}(hm:j4 F x1=some r) :
    Pure Tryz.prog 171 [.int .u64 x1] [] (qAr×Nat) (fun g=>.agg #[qAs r.1,.slice g.1 r.2.length g.2]) (fun g=>[Ro (eI .u8) 5 1 (.slice g.1 r.2.length g.2) r.2]) (fun _=>[]):=by
 refine qi Tryz.func171 rfl Tryz.ntmps171 rfl hm (fun w=>?_)
 refine au [25,8,47,25,0] ?_
 intro g2
 refine au [45,48] ?_
 refine qf qm0 ?_
 intro x3 e3 _
 refine au [46,48,24,15,32,1] ?_
 rintro x4 e4 ⟨a5,c6⟩
 refine au [78,1] ?_
 refine qf qop ?_
 intro x7 e7 _
 refine au [1,27,10] ?_
 rintro x8 e8 ⟨a9,c10⟩
 refine au [83,10] ?_
 exact qu (a9,c10) (resL (rs:=[.cell 2 29]) rfl (.cell (i:=0) rfl tf29 rfl rfl (by simp) rfl ResOk.nil) rfl) (fun h=>by subst h;exact (.cons 0 rfl .nil))
theorem qos {F:Nat}{x1:Int}{r:Bool}(hm:qeI F x1=some r) :
    Pure Tryz.prog 155 [qAs x1] [] Unit (fun _=>.bool r) (fun _=>[]) (fun _=>[]):=by
 refine qi Tryz.func155 rfl Tryz.ntmps155 rfl hm (fun w=>?_)
 refine au [109,48,26,3,1] ?_
 refine qq 3 (decide (0≤x1)) [(8,.bool ((decide (0≤x1)) && (decide (x1≤1048576))))] (fun h2=>?_) (fun h2=>?_) ?_
 refine qb (os:=_) rfl (qk (k:=5) rfl h2 ?_)
 refine au [1,26,7,24,1] ?_
 refine qc (d:=8) (v:=.bool ((decide (0≤x1)) && (decide (x1≤1048576)))) rfl (by rw[h2];simp only[Bool.true_and]) ?_
 exact az [62]
 refine qb (os:=_) rfl (qj (k:=5) rfl h2 ?_)
 refine au [56,24,2] ?_
 refine qc (d:=8) (v:=.bool ((decide (0≤x1)) && (decide (x1≤1048576)))) rfl (by rw[h2];simp only[Bool.false_and]) ?_
 exact az [62]
 refine qb (os:=_) rfl ?_
 exact az [73]
set_option maxHeartbeats 4000000 in
theorem qm5 {F:Nat}{x1:qAq}{a2:qAr}{c3:Nat}{r:Int}(hm:js F x1=some r) :
    Pure Tryz.prog 115 [.slice a2 x1.length c3] [Sl (eI .i64) 1 (.slice a2 x1.length c3) x1] Unit (fun _=>qAs r) (fun _=>[]) (fun _=>[]):=by
 refine qi Tryz.func115 rfl Tryz.ntmps115 rfl hm (fun w=>?_)
 refine av [109,64,21,65] ?_ ?_
 intro _
 exact az [47,82]
 intro _
 refine au [66,53] ?_
 refine qd (fun ((_,_):(Unit×Unit))=>([],[],[],[],qg3 F)) ?_ ?_
 refine au [121,1,45,14] ?_
 refine ql (fun (((x88,x89),_):((Int×Int)×Unit))=>([(3,qAs x88),(9,.slice a2 x1.length c3),(10,qAs (x1.length:Int)),(11,qAs x89)],[],[],[Sl (eI .i64) 1 (.slice a2 x1.length c3) x1])) (fun k (s:((Int×Int)×Unit))=>vX F x1 k s.1) ((-1,0),()) F ?_
 intro k0
 rintro ⟨⟨x88,x89⟩,_⟩
 try dsimp only
 refine qp (m':=qc5 F x1 (vX F x1 k0) x88 x89) rfl ?_
 refine av [127] ?_ ?_
 intro _
 refine au [90,47,25,14] ?_
 intro x0 e0 b0 o0
 refine au [25,3,46,3,14,48,32,2] ?_
 intro x2 e1 _
 refine av [25,4,46,8] ?_ ?_
 intro _
 exact az [47,49,50,92,18]
 intro _
 refine av [60,26,7,46,8] ?_ ?_
 intro _
 exact az [47,49,50,92,18]
 intro _
 refine au [9,22,2,4,1,95,2,4,16,1,0] ?_
 exact qg ((x0,iadd .i64 x89 1),())
 intro _
 exact az [119]
 rintro ⟨_,_⟩
 try dsimp only
 exact az [47,73]
set_option maxHeartbeats 4000000 in
theorem qiE {F:Nat}{g1:Nat}{x2:Int}{x3:qAq}{a4:qAr}{c5:Nat}{x6:Bool}{x7:Int}{x8:qAq}{a9:qAr}{c10:Nat}{r:(Int×qAq×Bool)}(hm:yM F x2 x3 x6 x7 x8=some r) :
    PureM Tryz.prog 163 [.pointer (some ⟨g1,0,none⟩),.agg #[qAs x7,.slice a9 x8.length c10]] [⟨g1,179,[qAs x2,.slice a4 x3.length c5,.bool x6]⟩] [Ro (eI .u8) 5 1 (.slice a4 x3.length c5) x3] [Sl (eI .u8) 1 (.slice a9 x8.length c10) x8] (qAr×Nat) (fun _=>.tuple #[]) (fun g=>[⟨g1,179,[qAs r.1,.slice g.1 r.2.1.length g.2,.bool r.2.2]⟩]) (fun g=>[Ro (eI .u8) 5 1 (.slice g.1 r.2.1.length g.2) r.2.1]):=by
 refine zS Tryz.func163 rfl Tryz.ntmps163 rfl hm (fun w=>?_)
 refine au [77] ?_
 intro g11
 refine au [45] ?_
 refine qd (fun ((x13,_):(Bool×Unit))=>([(0,.pointer (some ⟨g1,0,none⟩)),(3,.pointer (some ⟨g11,0,none⟩))],[⟨g11,29,[qAs x7,.slice a9 x8.length c10]⟩,⟨g1,179,[qAs x2,.slice a4 x3.length c5,.bool x13]⟩],[Ro (eI .u8) 5 1 (.slice a4 x3.length c5) x3],[Sl (eI .u8) 1 (.slice a9 x8.length c10) x8],yz F x2 x3 x7 x8 x13)) ?_ ?_
 refine av [27,2] ?_ ?_
 intro h18
 refine qB mixed [18] [⟨g11,29,[qAs x7,.slice a9 x8.length c10]⟩] [Sl (eI .u8) 1 (.slice a9 x8.length c10) x8,(BlkD.is ⟨g1,179,[qAs x2,.slice a4 x3.length c5,.bool x6]⟩)] (.cons 0 rfl .nil) (qF 0 rfl (qjS 1 rfl qA)) 19 rfl ?_
 refine au [105,24,4,3] ?_
 refine qJ 4 (.bool x6) [[18]] rfl rfl rfl (jC (j:=1) rfl tf4 rfl rfl (fun _=>rfl) rfl) ?_
 refine au [7,5] ?_
 refine qh (d:=9) (v:=.bool true) rfl (by rw[h18] <;> rfl) ?_
 refine au [15,6,15,7,15,8,118,110,15,13,15,14,7,15,7,16,24,4,17,24,9,18,25,6,0,32,3,24,14] ?_
 exact qM (qa (true,())) (by intro c h;cases h)
 intro h18
 refine qB mixed [18] [⟨g11,29,[qAs x7,.slice a9 x8.length c10]⟩] [Sl (eI .u8) 1 (.slice a9 x8.length c10) x8,(BlkD.is ⟨g1,179,[qAs x2,.slice a4 x3.length c5,.bool x6]⟩)] (.cons 0 rfl .nil) (qF 0 rfl (qjS 1 rfl qA)) 19 rfl ?_
 refine au [105,24,4,3] ?_
 refine qJ 4 (.bool x6) [[18]] rfl rfl rfl (jC (j:=1) rfl tf4 rfl rfl (fun _=>rfl) rfl) ?_
 refine au [7,5] ?_
 refine qh (d:=9) (v:=.bool false) rfl (by rw[h18] <;> rfl) ?_
 refine au [7,6,7,7,24,4,8,24,4,9] ?_
 refine qJ 10 (qAs x2) [[18]] rfl rfl rfl (jC (j:=1) rfl tf3 rfl rfl (fun _=>rfl) rfl) ?_
 refine au [24,4,11,25,12,12,7,13,7,14,7,15,7,16,24,4,17,24,9,18,25,6,0,32,3,24,14] ?_
 exact qM (qa ((decide (8192<(iadd .i64 x2 x7))),())) (by intro c h;cases h)
 rintro ⟨x13,_⟩
 try dsimp only
 refine av [48,25,9,69,102] ?_ ?_
 intro _
 refine qB mixed [9] [⟨g11,29,[qAs x7,.slice a9 x8.length c10]⟩] [Sl (eI .u8) 1 (.slice a9 x8.length c10) x8,(BlkD.is ⟨g1,179,[qAs x2,.slice a4 x3.length c5,.bool x13]⟩)] (.cons 0 rfl .nil) (qF 0 rfl (qjS 1 rfl qA)) 10 rfl ?_
 refine au [105,24,4,3] ?_
 refine qJ 4 (.agg #[qAs x2,.slice a4 x3.length c5]) [[9]] rfl rfl rfl (jC (j:=1) rfl tf29 rfl rfl (by simp) rfl) (kZ 5 (.agg #[qAs x7,.slice a9 x8.length c10]) rfl rfl rfl (zN (i:=0) rfl tf29 rfl rfl (by simp) rfl) ?_)
 refine au [24,9,6,29,3] ?_
 rintro x14 e14 ⟨a15,c16⟩
 refine au [0] ?_
 refine kb (.cons 0 rfl .nil) (qF 0 rfl (qjS 1 rfl qA)) ?_
 refine au [7,7,24,4,8,24,9,9,25,6,0] ?_
 refine qeO 9 rfl (by kernel_rfl) (.cons 0 rfl .nil) ?_
 refine au [24,14] ?_
 exact qM (zP (a15,c16)) (by intro c h;cases h)
 intro _
 refine au [9] ?_
 exact zP (a4,c5)
theorem qhX {F:Nat}{g1:Nat}{x2:Int}{x3:qAq}{a4:qAr}{c5:Nat}{x6:Bool}{x7:Int}{r:(Int×qAq×Bool)}(hm:zb F x2 x3 x6 x7=some r) :
    PureM Tryz.prog 156 [.pointer (some ⟨g1,0,none⟩),qAs x7] [⟨g1,179,[qAs x2,.slice a4 x3.length c5,.bool x6]⟩] [Ro (eI .u8) 5 1 (.slice a4 x3.length c5) x3] [] (qAr×Nat) (fun _=>.tuple #[]) (fun g=>[⟨g1,179,[qAs r.1,.slice g.1 r.2.1.length g.2,.bool r.2.2]⟩]) (fun g=>[Ro (eI .u8) 5 1 (.slice g.1 r.2.1.length g.2) r.2.1]):=by
 refine zS Tryz.func156 rfl Tryz.ntmps156 rfl hm (fun w=>?_)
 refine au [24,12,99,24,15,32,4] ?_
 rintro x8 e8 ⟨a9,c10⟩
 refine au [32,5] ?_
 rintro x11 e11 ⟨a12,c13⟩
 refine au [0] ?_
 exact zP (a12,c13)
theorem qjO {F:Nat}{x1:Int}{r:Bool}(hm:qaY F x1=some r) :
    Pure Tryz.prog 86 [qAs x1] [] Unit (fun _=>.bool r) (fun _=>[]) (fun _=>[]):=by
 refine qi Tryz.func86 rfl Tryz.ntmps86 rfl hm (fun w=>?_)
 exact az [109,60,25,2,73]
set_option maxHeartbeats 4000000 in
theorem qkb {F:Nat}{x1:Int}{x2:Int}{r:Bool}(hm:j3 F x1 x2=some r) :
    Pure Tryz.prog 57 [qAs x1,qAs x2] [] Unit (fun _=>.bool r) (fun _=>[]) (fun _=>[]):=by
 refine qi Tryz.func57 rfl Tryz.ntmps57 rfl hm (fun w=>?_)
 refine au [87,48,32,6] ?_
 intro x3 e3 _
 refine au [1] ?_
 refine qD 4 (fun ((x6,_):(Bool×Unit))=>([(0,qAs x1),(1,qAs x2),(11,.bool x6)],[],[],[],jq F x1 x2 x6)) ?_ ?_
 refine qb (os:=_) rfl ?_
 refine av [25,7] ?_ ?_
 intro h4
 refine qk (k:=7) rfl h4 ?_
 refine au [1,32,6] ?_
 intro x8 e8 _
 refine au [25,4,74] ?_
 exact qa ((!x8),())
 intro h4
 refine qj (k:=7) rfl h4 ?_
 refine au [56,6,76] ?_
 exact qa (false,())
 rintro ⟨x6,_⟩
 try dsimp only
 refine qb (os:=_) rfl ?_
 refine au [1] ?_
 refine qq 4 x6 [(16,.bool (x6 || (decide (x1<x2))))] (fun h7=>?_) (fun h7=>?_) ?_
 refine qb (os:=_) rfl (qk (k:=12) rfl h7 ?_)
 refine au [56,113] ?_
 refine qc (d:=16) (v:=.bool (x6 || (decide (x1<x2)))) rfl (by rw[h7];simp only[qx0]) ?_
 exact az [62]
 refine qb (os:=_) rfl (qj (k:=12) rfl h7 ?_)
 refine au [91,23,24,2] ?_
 refine qc (d:=16) (v:=.bool (x6 || (decide (x1<x2)))) rfl (by rw[h7];simp only[qxU]) ?_
 exact az [62]
 refine qb (os:=_) rfl ?_
 exact az [73]
theorem qh9 {F:Nat}{x1:Int}{r:Bool}(hm:yp F x1=some r) :
    Pure Tryz.prog 58 [qAs x1] [] Unit (fun _=>.bool r) (fun _=>[]) (fun _=>[]):=by
 refine qi Tryz.func58 rfl Tryz.ntmps58 rfl hm (fun w=>?_)
 exact az [109,60,25,2,73]
set_option maxHeartbeats 4000000 in
theorem qeG {F:Nat}{x1:qAq}{a2:qAr}{c3:Nat}{x4:Int}{r:(Int×Bool)}(hm:qI F x1 x4=some r) :
    Pure Tryz.prog 26 [.slice a2 x1.length c3,qAs x4] [Sl (eI .i64) 1 (.slice a2 x1.length c3) x1] Unit (fun _=>.tuple #[qAs r.1,.bool r.2]) (fun _=>[]) (fun _=>[]):=by
 refine qi Tryz.func26 rfl Tryz.ntmps26 rfl hm (fun w=>?_)
 refine au [124,67,121,46,48,67] ?_
 refine qd (fun ((x32,_):(Int×Unit))=>([(0,.slice a2 x1.length c3),(1,qAs x4),(6,qAs (x1.length:Int)),(7,qAs x32)],[],[],[Sl (eI .i64) 1 (.slice a2 x1.length c3) x1],za F x1 x4 x32)) ?_ ?_
 refine au [14] ?_
 refine ql (fun (((x85,x86),_):((Int×Int)×Unit))=>([(0,.slice a2 x1.length c3),(1,qAs x4),(6,qAs (x1.length:Int)),(7,qAs x85),(8,qAs x86)],[],[],[Sl (eI .i64) 1 (.slice a2 x1.length c3) x1])) (fun k (s:((Int×Int)×Unit))=>qC F x1 x4 k s.1) ((0,(x1.length:Int)),()) F ?_
 intro k95
 rintro ⟨⟨x85,x86⟩,_⟩
 try dsimp only
 refine qp (m':=q7 F x1 x4 (qC F x1 x4 k95) x85 x86) rfl ?_
 refine av [3,60,75] ?_ ?_
 intro _
 refine au [66,14,60,16,24,15,28,3,24,15,120] ?_
 intro x97 e97
 refine qc (d:=9) (v:=qAs x97) rfl (by rw[e97] <;> rfl) ?_
 refine au [45,60,25,14] ?_
 intro x98 e98 b99 o0
 refine au [25,3,1] ?_
 refine qf qkb ?_
 intro x0 e0 _
 refine av [51] ?_ ?_
 intro _
 refine au [4,78,95] ?_
 exact qg ((iadd .i64 x97 1,x86),())
 intro _
 refine au [4,1,95] ?_
 exact qg ((x85,x97),())
 intro _
 refine au [63] ?_
 exact qa (x85,())
 rintro ⟨x32,_⟩
 try dsimp only
 refine au [60,1,23,1] ?_
 refine qD 18 (fun ((x55,_):(Bool×Unit))=>([(31,qAs x32),(53,.bool x55)],[],[],[],kR F x32 x55)) ?_ ?_
 refine qb (os:=_) rfl ?_
 refine av [25,7] ?_ ?_
 intro h33
 refine qk (k:=35) rfl h33 ?_
 refine au [91,25,14] ?_
 intro x56 e56 b57 o58
 refine au [25,3,1,106] ?_
 refine qD 10 (fun ((x68,_):(Bool×Unit))=>([(31,qAs x32),(35,.bool true),(52,.bool x68)],[],[],[],kS F x32 x68)) ?_ ?_
 refine qb (os:=_) rfl ?_
 refine av [25,7] ?_ ?_
 intro h59
 refine qk (k:=42) rfl h59 ?_
 refine au [61,61,6,74] ?_
 exact qa (true,())
 intro h59
 refine qj (k:=42) rfl h59 ?_
 refine au [91,26,15] ?_
 intro x69 e69 b70 o71
 refine au [25,3,32,7] ?_
 intro x72 e72 _
 refine au [1] ?_
 refine qD 3 (fun ((x75,_):(Bool×Unit))=>([(31,qAs x32),(35,.bool true),(42,.bool false),(51,.bool x75)],[],[],[],kT F x32 x75)) ?_ ?_
 refine qb (os:=_) rfl ?_
 refine av [25,7] ?_ ?_
 intro h73
 refine qk (k:=48) rfl h73 ?_
 refine au [1,32,7] ?_
 intro x76 e76 _
 refine au [74] ?_
 exact qa (x76,())
 intro h73
 refine qj (k:=48) rfl h73 ?_
 refine au [56,76] ?_
 exact qa (false,())
 rintro ⟨x75,_⟩
 try dsimp only
 refine qb (os:=_) rfl ?_
 refine au [76] ?_
 exact qa (x75,())
 rintro ⟨x68,_⟩
 try dsimp only
 refine qb (os:=_) rfl ?_
 refine au [74] ?_
 exact qa (x68,())
 intro h33
 refine qj (k:=35) rfl h33 ?_
 refine au [61,61,61,61,6,76] ?_
 exact qa (false,())
 rintro ⟨x55,_⟩
 try dsimp only
 refine qb (os:=_) rfl ?_
 exact az [5,73]
set_option maxHeartbeats 4000000 in
theorem qh8 {F:Nat}{g1:Nat}{x2:qAq}{a3:qAr}{c4:Nat}{x5:Bool}{x6:Int}{x7:Bool}{r:(qAq×Bool×Int)}(hm:qaI F x2 x5 x6 x7=some r) :
    PureM Tryz.prog 186 [.pointer (some ⟨g1,0,none⟩),.bool x7] [⟨g1,254,[.slice a3 x2.length c4,.bool x5,qAs x6]⟩] [Ro (eI .i64) 3 1 (.slice a3 x2.length c4) x2] [] (qAr×Nat) (fun _=>.tuple #[]) (fun g=>[⟨g1,254,[.slice g.1 r.1.length g.2,.bool r.2.1,qAs r.2.2]⟩]) (fun g=>[Ro (eI .i64) 3 1 (.slice g.1 r.1.length g.2) r.1]):=by
 refine zS Tryz.func186 rfl Tryz.ntmps186 rfl hm (fun w=>?_)
 refine au [24,12] ?_
 refine qd (fun (((x21,x22,x23),(a19,c20)):((qAq×Bool×Int)×(qAr×Nat)))=>([(0,.pointer (some ⟨g1,0,none⟩))],[⟨g1,254,[.slice a19 x21.length c20,.bool x22,qAs x23]⟩],[Ro (eI .i64) 3 1 (.slice a19 x21.length c20) x21],[],vJ F x21 x22 x23)) ?_ ?_
 refine av [60,131,32,8,51] ?_ ?_
 intro _
 refine au [3] ?_
 refine qB mixed [13] [] [(BlkD.is ⟨g1,254,[.slice a3 x2.length c4,.bool x5,qAs x6]⟩)] .nil (qjS 0 rfl qA) 14 rfl ?_
 refine au [105,24,4,3] ?_
 refine qJ 4 (.slice a3 x2.length c4) [[13]] rfl rfl rfl (jC (j:=0) rfl tf39 rfl rfl (fun _=>rfl) rfl) ?_
 refine au [130,24,4,7] ?_
 refine qJ 8 (qAs x6) [[13]] rfl rfl rfl (jC (j:=0) rfl tf3 rfl rfl (fun _=>rfl) rfl) ?_
 refine au [24,9,9] ?_
 refine qx (vs:=[qAs x6]) (ys:=([x6]:qAq)) (qs .i64) (by decide) rfl Tryz.underlying39 tf3 rfl rfl rfl rfl rfl (by decide) (fun a29 c30=>?_)
 refine au [0,29,15,24,9,10] ?_
 refine qE 1 (qs .i64) rfl Tryz.underlying39 tf3 rfl rfl rfl rfl rfl (.inl ⟨0,_,rfl⟩) rfl rfl (fun x31 e31 a32 c33=>?_)
 refine au [0,29,15,7,11,24,4,12,24,9,13,125] ?_
 refine qeO 13 rfl (by kernel_rfl) .nil ?_
 refine au [24,14] ?_
 refine qM ?_ (by intro c h;cases h)
 refine au [2,99,1,88,24,10,88,125] ?_
 exact qa ((x31,x7,(0:Int)),(a32,c33))
 intro _
 refine au [9] ?_
 exact qa ((x2,x5,x6),(a3,c4))
 rintro ⟨⟨x21,x22,x23⟩,⟨a19,c20⟩⟩
 try dsimp only
 refine au [4,1,131,16,88,125] ?_
 exact zP (a19,c20)
set_option maxHeartbeats 4000000 in
theorem qox {F:Nat}{x1:qAq}{a2:qAr}{c3:Nat}{x4:qAq}{a5:qAr}{c6:Nat}{r:(qAq×qAq)}(hm:qfS F x1 x4=some r) :
    Pure Tryz.prog 157 [.slice a2 x1.length c3,.slice a5 x4.length c6] [Sl (eI .i64) 1 (.slice a2 x1.length c3) x1,Sl (eI .i64) 1 (.slice a5 x4.length c6) x4] ((qAr×Nat)×(qAr×Nat)) (fun g=>.tuple #[.slice g.1.1 r.1.length g.1.2,.slice g.2.1 r.2.length g.2.2]) (fun g=>[Ro (eI .i64) 3 1 (.slice g.1.1 r.1.length g.1.2) r.1,Ro (eI .i64) 3 1 (.slice g.2.1 r.2.length g.2.2) r.2]) (fun _=>[]):=by
 refine qi Tryz.func157 rfl Tryz.ntmps157 rfl hm (fun w=>?_)
 refine au [124,67,47] ?_
 refine qr (cells:=[.slice none 0 0,.bool true,qAs 0]) rfl st254 rfl (by kernel_rfl) rfl ?_
 refine au [24,3] ?_
 intro g7
 refine au [46] ?_
 refine qd (fun (((x66,x67,x68),(a64,c65)):((qAq×Bool×Int)×(qAr×Nat)))=>([(0,.slice a2 x1.length c3),(1,.slice a5 x4.length c6),(5,.slice none 0 0),(6,.pointer (some ⟨g7,0,none⟩))],[⟨g7,254,[.slice a64 x66.length c65,.bool x67,qAs x68]⟩],[Ro (eI .i64) 3 1 (.slice a64 x66.length c65) x66],[Sl (eI .i64) 1 (.slice a2 x1.length c3) x1,Sl (eI .i64) 1 (.slice a5 x4.length c6) x4],qfu F x1 x4 x66 x67 x68)) ?_ ?_
 refine au [121,1,45,98] ?_
 refine ql (fun (((x0,x2,x3,x5),(a0,c0)):((Int×qAq×Bool×Int)×(qAr×Nat)))=>([(0,.slice a2 x1.length c3),(1,.slice a5 x4.length c6),(5,.slice none 0 0),(6,.pointer (some ⟨g7,0,none⟩)),(17,.slice a2 x1.length c3),(18,qAs (x1.length:Int)),(19,qAs x0)],[⟨g7,254,[.slice a0 x2.length c0,.bool x3,qAs x5]⟩],[Ro (eI .i64) 3 1 (.slice a0 x2.length c0) x2],[Sl (eI .i64) 1 (.slice a2 x1.length c3) x1,Sl (eI .i64) 1 (.slice a5 x4.length c6) x4])) (fun k (s:((Int×qAq×Bool×Int)×(qAr×Nat)))=>vY F x1 x4 k s.1) ((0,([]:qAq),true,0),(none,0)) F ?_
 intro k0
 rintro ⟨⟨x0,x2,x3,x5⟩,⟨a0,c0⟩⟩
 try dsimp only
 refine qp (m':=qda F x1 x4 (vY F x1 x4 k0) x0 x2 x3 x5) rfl ?_
 refine av [127] ?_ ?_
 intro _
 refine au [90,47,25,14] ?_
 intro x6 e0 b0 o0
 refine au [25,3,46,60,30,0] ?_
 intro x7 e1 _
 refine au [79,67,99] ?_
 refine zg qh8 ?_
 rintro x8 e2 ⟨a1,c1⟩
 refine au [84,2,4,16,1,0] ?_
 exact qg ((iadd .i64 x0 1,x8.1,x8.2.1,x8.2.2),(a1,c1))
 intro _
 refine au [63] ?_
 exact qa ((x2,x3,x5),(a0,c0))
 rintro ⟨⟨x66,x67,x68⟩,⟨a64,c65⟩⟩
 try dsimp only
 refine qd (fun ((x9,(a3,c2)):(qAq×(qAr×Nat)))=>([(5,.slice a3 x9.length c2),(6,.pointer (some ⟨g7,0,none⟩))],[⟨g7,254,[.slice a64 x66.length c65,.bool x67,qAs x68]⟩],[Ro (eI .i64) 3 1 (.slice a3 x9.length c2) x9,Ro (eI .i64) 3 1 (.slice a64 x66.length c65) x66],[],qfv F x66 x9)) ?_ ?_
 refine au [121,1,45,98] ?_
 refine ql (fun (((x10,x11),(a4,c4)):((qAq×Int)×(qAr×Nat)))=>([(0,.slice a2 x1.length c3),(5,.slice a4 x10.length c4),(6,.pointer (some ⟨g7,0,none⟩)),(33,.slice a5 x4.length c6),(34,qAs (x4.length:Int)),(35,qAs x11)],[⟨g7,254,[.slice a64 x66.length c65,.bool x67,qAs x68]⟩],[Ro (eI .i64) 3 1 (.slice a4 x10.length c4) x10,Ro (eI .i64) 3 1 (.slice a64 x66.length c65) x66],[Sl (eI .i64) 1 (.slice a2 x1.length c3) x1,Sl (eI .i64) 1 (.slice a5 x4.length c6) x4])) (fun k (s:((qAq×Int)×(qAr×Nat)))=>yU F x1 x4 x66 k s.1) ((([]:qAq),0),(none,0)) F ?_
 intro k1
 rintro ⟨⟨x10,x11⟩,⟨a4,c4⟩⟩
 try dsimp only
 refine qp (m':=qc9 F x1 x4 x66 (yU F x1 x4 x66 k1) x10 x11) rfl ?_
 refine av [127] ?_ ?_
 intro _
 refine au [66] ?_
 refine qd (fun ((x12,(a6,c5)):(qAq×(qAr×Nat)))=>([(0,.slice a2 x1.length c3),(5,.slice a6 x12.length c5),(6,.pointer (some ⟨g7,0,none⟩)),(33,.slice a5 x4.length c6),(34,qAs (x4.length:Int)),(35,qAs x11)],[⟨g7,254,[.slice a64 x66.length c65,.bool x67,qAs x68]⟩],[Ro (eI .i64) 3 1 (.slice a6 x12.length c5) x12,Ro (eI .i64) 3 1 (.slice a64 x66.length c65) x66],[Sl (eI .i64) 1 (.slice a2 x1.length c3) x1,Sl (eI .i64) 1 (.slice a5 x4.length c6) x4],qdb F (yU F x1 x4 x66 k1) x11 x12)) ?_ ?_
 refine au [14,47,26,15] ?_
 intro x13 e3 b1 o1
 refine au [25,3,46,60,30,0] ?_
 intro x14 e4 _
 refine av [79,67,48,102] ?_ ?_
 intro _
 refine au [99] ?_
 refine qx (vs:=[qAs x13]) (ys:=([x13]:qAq)) (qs .i64) (by decide) rfl Tryz.underlying39 tf3 rfl rfl rfl rfl rfl (by decide) (fun a7 c7=>qE 1 (qs .i64) rfl Tryz.underlying39 tf3 rfl rfl rfl rfl rfl (.inl ⟨0,_,rfl⟩) rfl rfl (fun x15 e5 a8 c8=>?_))
 refine au [95] ?_
 exact qa (x15,(a8,c8))
 intro _
 refine au [9,22] ?_
 exact qa (x10,(a4,c4))
 rintro ⟨x12,⟨a6,c5⟩⟩
 try dsimp only
 refine au [4,16,1,0] ?_
 exact qg ((x12,iadd .i64 x11 1),(a6,c5))
 intro _
 refine au [63] ?_
 exact qa (x10,(a4,c4))
 rintro ⟨x9,⟨a3,c2⟩⟩
 try dsimp only
 refine au [48,131,1,5,49] ?_
 exact qm ((a64,c65),(a3,c2))
theorem qg9 {F:Nat}{g1:Nat}{x2:Int}{x3:qAq}{a4:qAr}{c5:Nat}{x6:Bool}{x7:qAq}{a8:qAr}{c9:Nat}{r:(Int×qAq×Bool)}(hm:jv F x2 x3 x6 x7=some r) :
    PureM Tryz.prog 158 [.pointer (some ⟨g1,0,none⟩),.slice a8 x7.length c9] [⟨g1,179,[qAs x2,.slice a4 x3.length c5,.bool x6]⟩] [Ro (eI .u8) 5 1 (.slice a4 x3.length c5) x3] [Sl (eI .i64) 1 (.slice a8 x7.length c9) x7] (qAr×Nat) (fun _=>.tuple #[]) (fun g=>[⟨g1,179,[qAs r.1,.slice g.1 r.2.1.length g.2,.bool r.2.2]⟩]) (fun g=>[Ro (eI .u8) 5 1 (.slice g.1 r.2.1.length g.2) r.2.1]):=by
 refine zS Tryz.func158 rfl Tryz.ntmps158 rfl hm (fun w=>?_)
 refine au [24,12,115,27,11] ?_
 rintro x10 e10 ⟨a11,c12⟩
 refine au [45,121,1,45,14] ?_
 refine ql (fun (((x27,x28,x31,x32),(a29,c30)):((Int×Int×qAq×Bool)×(qAr×Nat)))=>([(0,.pointer (some ⟨g1,0,none⟩)),(10,.slice a8 x7.length c9),(11,qAs (x7.length:Int)),(12,qAs x27)],[⟨g1,179,[qAs x28,.slice a29 x31.length c30,.bool x32]⟩],[Ro (eI .u8) 5 1 (.slice a29 x31.length c30) x31],[Sl (eI .i64) 1 (.slice a8 x7.length c9) x7])) (fun k (s:((Int×Int×qAq×Bool)×(qAr×Nat)))=>zX F x7 k s.1) ((0,x10.1,x10.2.1,x10.2.2),(a11,c12)) F ?_
 intro k47
 rintro ⟨⟨x27,x28,x31,x32⟩,⟨a29,c30⟩⟩
 try dsimp only
 refine qp (m':=yN F x7 (zX F x7 k47) x27 x28 x31 x32) rfl ?_
 refine av [127] ?_ ?_
 intro _
 refine au [90,48,25,14] ?_
 intro x55 e55 b56 o57
 refine au [25,3,67,99,1,28,4,24,13,27,11] ?_
 rintro x58 e58 ⟨a59,c60⟩
 refine au [84,2,4,16,1,0] ?_
 exact qg ((iadd .i64 x27 1,x58.1,x58.2.1,x58.2.2),(a59,c60))
 intro _
 refine au [63] ?_
 exact zP (a29,c30)
theorem qoy {F:Nat}{x1:qAq}{a2:qAr}{c3:Nat}{r:Unit}(hm:qhb F x1=some r) :
    PureM Tryz.prog 187 [.slice a2 x1.length c3] [] [] [Sl (eI .i64) 1 (.slice a2 x1.length c3) x1] Nat (fun g=>.func (.func 211) #[] #[.pointer (some ⟨g,0,none⟩)]) (fun g=>[⟨g,39,[.slice a2 x1.length c3]⟩]) (fun _=>[]):=by
 refine zS Tryz.func187 rfl Tryz.ntmps187 rfl hm (fun w=>?_)
 refine au [108] ?_
 intro g4
 refine au [46,47,29,0,49] ?_
 exact zP g4
end Go.Proofs.YtmhggdbfbmkpeaaGreat
