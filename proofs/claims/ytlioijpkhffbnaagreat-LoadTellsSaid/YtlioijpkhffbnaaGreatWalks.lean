/- Each Go function of this seat computes what its model says. -/
import Derived.Test.YtlioijpkhffbnaaGreatRows
import Derived.Test.YtlioijpkhffbnaaGreatModels
import Derived.Test.YtlioijpkhffbnaaGreatShelf
open Bool renaming false_or→qyd, true_or→qyg
namespace Go.Proofs.YtlioijpkhffbnaaGreat
open Go SX
def eN59 (p:qAE×(qAF×Nat)):List Value:=[.slice p.2.1 p.1.length p.2.2]
def iN59 (p:qAE×(qAF×Nat)):List (World→Prop):=[Sl (eI .i64) 1 (.slice p.2.1 p.1.length p.2.2) p.1]
theorem kL:EncOk eN59 1:=⟨fun _=>rfl,fun _=>rfl⟩
def rN59 (p:qAE×(qAF×Nat)):List RowF:=[FoR (eI .i64) 3 1 (.slice p.2.1 p.1.length p.2.2) p.1]
theorem qxK:∀ p,iN59 p=(rN59 p).map RowF.cells:=fun _=>rfl
theorem qxC:∀ f∈rN59 (([]:qAE),((none,0):qAF×Nat)),f.v=.slice none 0 0∧f.n=0∧f.cs=[]:=by simp[rN59,FoR]
def eS96 (p:(Int×Int)):List Value:=[qAG p.1,qAG p.2]
theorem qrd:EncOk eS96 2:=⟨fun _=>rfl,fun _=>rfl⟩
def eS129 (p:(Int×Int)):List Value:=[qAG p.1,qAG p.2]
theorem kJ:EncOk eS129 2:=⟨fun _=>rfl,fun _=>rfl⟩
instance tf3:TyF Tryz.prog 3 false (qAG 0) 1 8:=.of (by kernel_rfl) (by kernel_rfl)
instance tf4:TyF Tryz.prog 4 false (.bool false) 1 1:=.of (by kernel_rfl) (by kernel_rfl)
instance tf5:TyF Tryz.prog 5 false (.int .u8 0) 1 1:=.of (by kernel_rfl) (by kernel_rfl)
instance tf22:TyF Tryz.prog 22 false (.slice none 0 0) 1 24:=.of (by kernel_rfl) (by kernel_rfl)
instance tf24:TyF Tryz.prog 24 true (.agg #[.slice none 0 0]) 1 24:=.of (by kernel_rfl) (by kernel_rfl)
instance tf26:TyF Tryz.prog 26 true (.agg #[qAG 0,qAG 0,qAG 0]) 3 24:=.of (by kernel_rfl) (by kernel_rfl)
instance tf27:TyF Tryz.prog 27 false (.slice none 0 0) 1 24:=.of (by kernel_rfl) (by kernel_rfl)
instance tf29:TyF Tryz.prog 29 true (.agg #[qAG 0,qAG 0,qAG 0,qAG 0]) 4 32:=.of (by kernel_rfl) (by kernel_rfl)
instance tf58:TyF Tryz.prog 58 false (.int .u64 0) 1 8:=.of (by kernel_rfl) (by kernel_rfl)
instance tf59:TyF Tryz.prog 59 false (.slice none 0 0) 1 24:=.of (by kernel_rfl) (by kernel_rfl)
instance tf65:TyF Tryz.prog 65 true (.agg #[qAG 0,.slice none 0 0]) 2 32:=.of (by kernel_rfl) (by kernel_rfl)
instance tf75:TyF Tryz.prog 75 true (.agg #[qAG 0,qAG 0,qAG 0,qAG 0,qAG 0,.slice none 0 0]) 6 64:=.of (by kernel_rfl) (by kernel_rfl)
instance tf81:TyF Tryz.prog 81 false (.nilFunc) 1 8:=.of (by kernel_rfl) (by kernel_rfl)
instance tf96:TyF Tryz.prog 96 true (.agg #[qAG 0,qAG 0]) 2 16:=.of (by kernel_rfl) (by kernel_rfl)
instance tf125:TyF Tryz.prog 125 false (.slice none 0 0) 1 24:=.of (by kernel_rfl) (by kernel_rfl)
instance tf129:TyF Tryz.prog 129 true (.agg #[qAG 0,qAG 0]) 2 16:=.of (by kernel_rfl) (by kernel_rfl)
instance tf140:TyF Tryz.prog 140 true (.agg #[qAG 0,qAG 0,.slice none 0 0]) 3 40:=.of (by kernel_rfl) (by kernel_rfl)
instance tf155:TyF Tryz.prog 155 false (.pointer none) 1 8:=.of (by kernel_rfl) (by kernel_rfl)
instance tf178:TyF Tryz.prog 178 true (.agg #[]) 0 0:=.of (by kernel_rfl) (by kernel_rfl)
instance ff24_0:FdF Tryz.prog 24 0 0:=.of (by kernel_rfl)
instance ff26_0:FdF Tryz.prog 26 0 0:=.of (by kernel_rfl)
instance ff26_1:FdF Tryz.prog 26 1 1:=.of (by kernel_rfl)
instance ff26_2:FdF Tryz.prog 26 2 2:=.of (by kernel_rfl)
instance ff29_0:FdF Tryz.prog 29 0 0:=.of (by kernel_rfl)
instance ff29_1:FdF Tryz.prog 29 1 1:=.of (by kernel_rfl)
instance ff29_2:FdF Tryz.prog 29 2 2:=.of (by kernel_rfl)
instance ff29_3:FdF Tryz.prog 29 3 3:=.of (by kernel_rfl)
instance ff65_0:FdF Tryz.prog 65 0 0:=.of (by kernel_rfl)
instance ff65_1:FdF Tryz.prog 65 1 1:=.of (by kernel_rfl)
instance ff75_0:FdF Tryz.prog 75 0 0:=.of (by kernel_rfl)
instance ff75_1:FdF Tryz.prog 75 1 1:=.of (by kernel_rfl)
instance ff75_2:FdF Tryz.prog 75 2 4:=.of (by kernel_rfl)
instance ff80_0:FdF Tryz.prog 80 0 0:=.of (by kernel_rfl)
instance ff80_1:FdF Tryz.prog 80 1 1:=.of (by kernel_rfl)
instance ff80_2:FdF Tryz.prog 80 2 2:=.of (by kernel_rfl)
instance ff80_3:FdF Tryz.prog 80 3 3:=.of (by kernel_rfl)
instance ff101_0:FdF Tryz.prog 101 0 0:=.of (by kernel_rfl)
instance ff101_1:FdF Tryz.prog 101 1 1:=.of (by kernel_rfl)
instance ff107_0:FdF Tryz.prog 107 0 0:=.of (by kernel_rfl)
instance ff107_1:FdF Tryz.prog 107 1 6:=.of (by kernel_rfl)
instance ff107_2:FdF Tryz.prog 107 2 7:=.of (by kernel_rfl)
instance ff129_0:FdF Tryz.prog 129 0 0:=.of (by kernel_rfl)
instance ff129_1:FdF Tryz.prog 129 1 1:=.of (by kernel_rfl)
instance ff140_0:FdF Tryz.prog 140 0 0:=.of (by kernel_rfl)
instance ff140_1:FdF Tryz.prog 140 1 1:=.of (by kernel_rfl)
instance ff161_0:FdF Tryz.prog 161 0 0:=.of (by kernel_rfl)
instance ff166_0:FdF Tryz.prog 166 0 0:=.of (by kernel_rfl)
instance ff166_1:FdF Tryz.prog 166 1 2:=.of (by kernel_rfl)
instance ff183_0:FdF Tryz.prog 183 0 0:=.of (by kernel_rfl)
instance ff183_1:FdF Tryz.prog 183 1 2:=.of (by kernel_rfl)
instance ff214_0:FdF Tryz.prog 214 0 0:=.of (by kernel_rfl)
instance ff214_1:FdF Tryz.prog 214 1 1:=.of (by kernel_rfl)
instance ff214_2:FdF Tryz.prog 214 2 2:=.of (by kernel_rfl)
instance st24:StF Tryz.prog 24 [(0,1)] (.agg #[.slice none 0 0]):=.of (by kernel_rfl) (by kernel_rfl)
instance st26:StF Tryz.prog 26 [(0,1),(1,1),(2,1)] (.agg #[qAG 0,qAG 0,qAG 0]):=.of (by kernel_rfl) (by kernel_rfl)
instance st29:StF Tryz.prog 29 [(0,1),(1,1),(2,1),(3,1)] (.agg #[qAG 0,qAG 0,qAG 0,qAG 0]):=.of (by kernel_rfl) (by kernel_rfl)
instance st65:StF Tryz.prog 65 [(0,1),(1,1)] (.agg #[qAG 0,.slice none 0 0]):=.of (by kernel_rfl) (by kernel_rfl)
instance st75:StF Tryz.prog 75 [(0,1),(1,3),(4,2)] (.agg #[qAG 0,qAG 0,qAG 0,qAG 0,qAG 0,.slice none 0 0]):=.of (by kernel_rfl) (by kernel_rfl)
instance st80:StF Tryz.prog 80 [(0,1),(1,1),(2,1),(3,1)] (.agg #[.slice none 0 0,qAG 0,qAG 0,.bool false]):=.of (by kernel_rfl) (by kernel_rfl)
instance st96:StF Tryz.prog 96 [(0,1),(1,1)] (.agg #[qAG 0,qAG 0]):=.of (by kernel_rfl) (by kernel_rfl)
instance st101:StF Tryz.prog 101 [(0,1),(1,1)] (.agg #[qAG 0,.bool false]):=.of (by kernel_rfl) (by kernel_rfl)
instance st107:StF Tryz.prog 107 [(0,6),(6,1),(7,1)] (.agg #[qAG 0,qAG 0,qAG 0,qAG 0,qAG 0,.slice none 0 0,.slice none 0 0,.slice none 0 0]):=.of (by kernel_rfl) (by kernel_rfl)
instance st129:StF Tryz.prog 129 [(0,1),(1,1)] (.agg #[qAG 0,qAG 0]):=.of (by kernel_rfl) (by kernel_rfl)
instance st140:StF Tryz.prog 140 [(0,1),(1,2)] (.agg #[qAG 0,qAG 0,.slice none 0 0]):=.of (by kernel_rfl) (by kernel_rfl)
instance st161:StF Tryz.prog 161 [(0,2)] (.agg #[qAG 0,.slice none 0 0]):=.of (by kernel_rfl) (by kernel_rfl)
instance st166:StF Tryz.prog 166 [(0,2),(2,1)] (.agg #[qAG 0,.slice none 0 0,qAG 0]):=.of (by kernel_rfl) (by kernel_rfl)
instance st178:StF Tryz.prog 178 [] (.agg #[]):=.of (by kernel_rfl) (by kernel_rfl)
instance st183:StF Tryz.prog 183 [(0,2),(2,1)] (.agg #[qAG 0,.slice none 0 0,.bool false]):=.of (by kernel_rfl) (by kernel_rfl)
instance st214:StF Tryz.prog 214 [(0,1),(1,1),(2,1)] (.agg #[.slice none 0 0,.bool false,qAG 0]):=.of (by kernel_rfl) (by kernel_rfl)
instance se29:StE4 Tryz.prog 29 .i64 .i64 .i64 .i64:=⟨_,_,_,_,Tryz.underlying29,by kernel_rfl,by kernel_rfl,by decide,by decide,by decide,by decide,rfl,rfl,rfl,rfl,Tryz.underlying3,Tryz.underlying3,Tryz.underlying3,Tryz.underlying3⟩
theorem mixed:Tryz.prog.follows .mixedOrders=true:=by kernel_rfl
instance en10:EnC Tryz.prog 10:=⟨qe Tryz.func10 rfl rfl⟩
instance en11:EnC Tryz.prog 11:=⟨qe Tryz.func11 rfl rfl⟩
instance en12:EnC Tryz.prog 12:=⟨qe Tryz.func12 rfl rfl⟩
instance en13:EnC Tryz.prog 13:=⟨qe Tryz.func13 rfl rfl⟩
instance en14:EnC Tryz.prog 14:=⟨qe Tryz.func14 rfl rfl⟩
instance en15:EnC Tryz.prog 15:=⟨qe Tryz.func15 rfl rfl⟩
instance en16:EnC Tryz.prog 16:=⟨qe Tryz.func16 rfl rfl⟩
instance en17:EnC Tryz.prog 17:=⟨qe Tryz.func17 rfl rfl⟩
instance en18:EnC Tryz.prog 18:=⟨qe Tryz.func18 rfl rfl⟩
instance en19:EnC Tryz.prog 19:=⟨qe Tryz.func19 rfl rfl⟩
instance en20:EnC Tryz.prog 20:=⟨qe Tryz.func20 rfl rfl⟩
instance en21:EnC Tryz.prog 21:=⟨qe Tryz.func21 rfl rfl⟩
instance en22:EnC Tryz.prog 22:=⟨qe Tryz.func22 rfl rfl⟩
instance en23:EnC Tryz.prog 23:=⟨qe Tryz.func23 rfl rfl⟩
instance en24:EnC Tryz.prog 24:=⟨qe Tryz.func24 rfl rfl⟩
theorem ent25:Enters Tryz.prog 25:=qe Tryz.func25 rfl rfl
instance en25:EnC Tryz.prog 25:=⟨ent25⟩
instance en26:EnC Tryz.prog 26:=⟨qe Tryz.func26 rfl rfl⟩
instance en27:EnC Tryz.prog 27:=⟨qe Tryz.func27 rfl rfl⟩
instance en28:EnC Tryz.prog 28:=⟨qe Tryz.func28 rfl rfl⟩
instance en29:EnC Tryz.prog 29:=⟨qe Tryz.func29 rfl rfl⟩
instance en30:EnC Tryz.prog 30:=⟨qe Tryz.func30 rfl rfl⟩
instance en31:EnC Tryz.prog 31:=⟨qe Tryz.func31 rfl rfl⟩
instance en32:EnC Tryz.prog 32:=⟨qe Tryz.func32 rfl rfl⟩
instance en33:EnC Tryz.prog 33:=⟨qe Tryz.func33 rfl rfl⟩
instance en34:EnC Tryz.prog 34:=⟨qe Tryz.func34 rfl rfl⟩
instance en35:EnC Tryz.prog 35:=⟨qe Tryz.func35 rfl rfl⟩
theorem ent36:Enters Tryz.prog 36:=qe Tryz.func36 rfl rfl
instance en36:EnC Tryz.prog 36:=⟨ent36⟩
theorem ent37:Enters Tryz.prog 37:=qe Tryz.func37 rfl rfl
instance en37:EnC Tryz.prog 37:=⟨ent37⟩
instance en38:EnC Tryz.prog 38:=⟨qe Tryz.func38 rfl rfl⟩
instance en39:EnC Tryz.prog 39:=⟨qe Tryz.func39 rfl rfl⟩
instance en40:EnC Tryz.prog 40:=⟨qe Tryz.func40 rfl rfl⟩
instance en41:EnC Tryz.prog 41:=⟨qe Tryz.func41 rfl rfl⟩
instance en42:EnC Tryz.prog 42:=⟨qe Tryz.func42 rfl rfl⟩
instance en43:EnC Tryz.prog 43:=⟨qe Tryz.func43 rfl rfl⟩
instance en44:EnC Tryz.prog 44:=⟨qe Tryz.func44 rfl rfl⟩
instance en45:EnC Tryz.prog 45:=⟨qe Tryz.func45 rfl rfl⟩
instance en46:EnC Tryz.prog 46:=⟨qe Tryz.func46 rfl rfl⟩
instance en47:EnC Tryz.prog 47:=⟨qe Tryz.func47 rfl rfl⟩
instance en48:EnC Tryz.prog 48:=⟨qe Tryz.func48 rfl rfl⟩
instance en49:EnC Tryz.prog 49:=⟨qe Tryz.func49 rfl rfl⟩
instance en50:EnC Tryz.prog 50:=⟨qe Tryz.func50 rfl rfl⟩
instance en51:EnC Tryz.prog 51:=⟨qe Tryz.func51 rfl rfl⟩
instance en52:EnC Tryz.prog 52:=⟨qe Tryz.func52 rfl rfl⟩
instance en53:EnC Tryz.prog 53:=⟨qe Tryz.func53 rfl rfl⟩
instance en54:EnC Tryz.prog 54:=⟨qe Tryz.func54 rfl rfl⟩
instance en55:EnC Tryz.prog 55:=⟨qe Tryz.func55 rfl rfl⟩
instance en56:EnC Tryz.prog 56:=⟨qe Tryz.func56 rfl rfl⟩
instance en57:EnC Tryz.prog 57:=⟨qe Tryz.func57 rfl rfl⟩
instance en58:EnC Tryz.prog 58:=⟨qe Tryz.func58 rfl rfl⟩
instance en59:EnC Tryz.prog 59:=⟨qe Tryz.func59 rfl rfl⟩
instance en60:EnC Tryz.prog 60:=⟨qe Tryz.func60 rfl rfl⟩
instance en61:EnC Tryz.prog 61:=⟨qe Tryz.func61 rfl rfl⟩
instance en62:EnC Tryz.prog 62:=⟨qe Tryz.func62 rfl rfl⟩
instance en63:EnC Tryz.prog 63:=⟨qe Tryz.func63 rfl rfl⟩
instance en64:EnC Tryz.prog 64:=⟨qe Tryz.func64 rfl rfl⟩
instance en65:EnC Tryz.prog 65:=⟨qe Tryz.func65 rfl rfl⟩
instance en66:EnC Tryz.prog 66:=⟨qe Tryz.func66 rfl rfl⟩
instance en67:EnC Tryz.prog 67:=⟨qe Tryz.func67 rfl rfl⟩
instance en68:EnC Tryz.prog 68:=⟨qe Tryz.func68 rfl rfl⟩
instance en69:EnC Tryz.prog 69:=⟨qe Tryz.func69 rfl rfl⟩
instance en70:EnC Tryz.prog 70:=⟨qe Tryz.func70 rfl rfl⟩
instance en71:EnC Tryz.prog 71:=⟨qe Tryz.func71 rfl rfl⟩
instance en72:EnC Tryz.prog 72:=⟨qe Tryz.func72 rfl rfl⟩
instance en73:EnC Tryz.prog 73:=⟨qe Tryz.func73 rfl rfl⟩
instance en74:EnC Tryz.prog 74:=⟨qe Tryz.func74 rfl rfl⟩
instance en75:EnC Tryz.prog 75:=⟨qe Tryz.func75 rfl rfl⟩
instance en76:EnC Tryz.prog 76:=⟨qe Tryz.func76 rfl rfl⟩
instance en77:EnC Tryz.prog 77:=⟨qe Tryz.func77 rfl rfl⟩
instance en78:EnC Tryz.prog 78:=⟨qe Tryz.func78 rfl rfl⟩
instance en79:EnC Tryz.prog 79:=⟨qe Tryz.func79 rfl rfl⟩
instance en80:EnC Tryz.prog 80:=⟨qe Tryz.func80 rfl rfl⟩
instance en81:EnC Tryz.prog 81:=⟨qe Tryz.func81 rfl rfl⟩
instance en82:EnC Tryz.prog 82:=⟨qe Tryz.func82 rfl rfl⟩
instance en83:EnC Tryz.prog 83:=⟨qe Tryz.func83 rfl rfl⟩
instance en84:EnC Tryz.prog 84:=⟨qe Tryz.func84 rfl rfl⟩
instance en85:EnC Tryz.prog 85:=⟨qe Tryz.func85 rfl rfl⟩
instance en86:EnC Tryz.prog 86:=⟨qe Tryz.func86 rfl rfl⟩
instance en87:EnC Tryz.prog 87:=⟨qe Tryz.func87 rfl rfl⟩
instance en88:EnC Tryz.prog 88:=⟨qe Tryz.func88 rfl rfl⟩
instance en89:EnC Tryz.prog 89:=⟨qe Tryz.func89 rfl rfl⟩
instance en90:EnC Tryz.prog 90:=⟨qe Tryz.func90 rfl rfl⟩
instance en91:EnC Tryz.prog 91:=⟨qe Tryz.func91 rfl rfl⟩
instance en92:EnC Tryz.prog 92:=⟨qe Tryz.func92 rfl rfl⟩
instance en93:EnC Tryz.prog 93:=⟨qe Tryz.func93 rfl rfl⟩
instance en94:EnC Tryz.prog 94:=⟨qe Tryz.func94 rfl rfl⟩
instance en95:EnC Tryz.prog 95:=⟨qe Tryz.func95 rfl rfl⟩
instance en96:EnC Tryz.prog 96:=⟨qe Tryz.func96 rfl rfl⟩
instance en97:EnC Tryz.prog 97:=⟨qe Tryz.func97 rfl rfl⟩
instance en98:EnC Tryz.prog 98:=⟨qe Tryz.func98 rfl rfl⟩
instance en99:EnC Tryz.prog 99:=⟨qe Tryz.func99 rfl rfl⟩
instance en100:EnC Tryz.prog 100:=⟨qe Tryz.func100 rfl rfl⟩
instance en101:EnC Tryz.prog 101:=⟨qe Tryz.func101 rfl rfl⟩
instance en102:EnC Tryz.prog 102:=⟨qe Tryz.func102 rfl rfl⟩
theorem ent103:Enters Tryz.prog 103:=qe Tryz.func103 rfl rfl
instance en103:EnC Tryz.prog 103:=⟨ent103⟩
instance en104:EnC Tryz.prog 104:=⟨qe Tryz.func104 rfl rfl⟩
theorem ent105:Enters Tryz.prog 105:=qe Tryz.func105 rfl rfl
instance en105:EnC Tryz.prog 105:=⟨ent105⟩
instance en106:EnC Tryz.prog 106:=⟨qe Tryz.func106 rfl rfl⟩
theorem ent107:Enters Tryz.prog 107:=qe Tryz.func107 rfl rfl
instance en107:EnC Tryz.prog 107:=⟨ent107⟩
theorem ent108:Enters Tryz.prog 108:=qe Tryz.func108 rfl rfl
instance en108:EnC Tryz.prog 108:=⟨ent108⟩
theorem ent109:Enters Tryz.prog 109:=qe Tryz.func109 rfl rfl
instance en109:EnC Tryz.prog 109:=⟨ent109⟩
instance en110:EnC Tryz.prog 110:=⟨qe Tryz.func110 rfl rfl⟩
instance en111:EnC Tryz.prog 111:=⟨qe Tryz.func111 rfl rfl⟩
instance en112:EnC Tryz.prog 112:=⟨qe Tryz.func112 rfl rfl⟩
instance en113:EnC Tryz.prog 113:=⟨qe Tryz.func113 rfl rfl⟩
instance en114:EnC Tryz.prog 114:=⟨qe Tryz.func114 rfl rfl⟩
instance en115:EnC Tryz.prog 115:=⟨qe Tryz.func115 rfl rfl⟩
instance en116:EnC Tryz.prog 116:=⟨qe Tryz.func116 rfl rfl⟩
instance en117:EnC Tryz.prog 117:=⟨qe Tryz.func117 rfl rfl⟩
instance en118:EnC Tryz.prog 118:=⟨qe Tryz.func118 rfl rfl⟩
instance en119:EnC Tryz.prog 119:=⟨qe Tryz.func119 rfl rfl⟩
instance en120:EnC Tryz.prog 120:=⟨qe Tryz.func120 rfl rfl⟩
theorem ent121:Enters Tryz.prog 121:=qe Tryz.func121 rfl rfl
instance en121:EnC Tryz.prog 121:=⟨ent121⟩
instance en122:EnC Tryz.prog 122:=⟨qe Tryz.func122 rfl rfl⟩
theorem ent123:Enters Tryz.prog 123:=qe Tryz.func123 rfl rfl
instance en123:EnC Tryz.prog 123:=⟨ent123⟩
theorem ent124:Enters Tryz.prog 124:=qe Tryz.func124 rfl rfl
instance en124:EnC Tryz.prog 124:=⟨ent124⟩
instance en125:EnC Tryz.prog 125:=⟨qe Tryz.func125 rfl rfl⟩
instance en126:EnC Tryz.prog 126:=⟨qe Tryz.func126 rfl rfl⟩
instance en127:EnC Tryz.prog 127:=⟨qe Tryz.func127 rfl rfl⟩
instance en128:EnC Tryz.prog 128:=⟨qe Tryz.func128 rfl rfl⟩
instance en129:EnC Tryz.prog 129:=⟨qe Tryz.func129 rfl rfl⟩
instance en130:EnC Tryz.prog 130:=⟨qe Tryz.func130 rfl rfl⟩
instance en131:EnC Tryz.prog 131:=⟨qe Tryz.func131 rfl rfl⟩
instance en132:EnC Tryz.prog 132:=⟨qe Tryz.func132 rfl rfl⟩
instance en133:EnC Tryz.prog 133:=⟨qe Tryz.func133 rfl rfl⟩
instance en134:EnC Tryz.prog 134:=⟨qe Tryz.func134 rfl rfl⟩
instance en135:EnC Tryz.prog 135:=⟨qe Tryz.func135 rfl rfl⟩
instance en136:EnC Tryz.prog 136:=⟨qe Tryz.func136 rfl rfl⟩
instance en137:EnC Tryz.prog 137:=⟨qe Tryz.func137 rfl rfl⟩
instance en138:EnC Tryz.prog 138:=⟨qe Tryz.func138 rfl rfl⟩
instance en139:EnC Tryz.prog 139:=⟨qe Tryz.func139 rfl rfl⟩
instance en140:EnC Tryz.prog 140:=⟨qe Tryz.func140 rfl rfl⟩
instance en141:EnC Tryz.prog 141:=⟨qe Tryz.func141 rfl rfl⟩
instance en142:EnC Tryz.prog 142:=⟨qe Tryz.func142 rfl rfl⟩
instance en143:EnC Tryz.prog 143:=⟨qe Tryz.func143 rfl rfl⟩
instance en144:EnC Tryz.prog 144:=⟨qe Tryz.func144 rfl rfl⟩
instance en147:EnC Tryz.prog 147:=⟨qe Tryz.func147 rfl rfl⟩
instance en148:EnC Tryz.prog 148:=⟨qe Tryz.func148 rfl rfl⟩
instance en149:EnC Tryz.prog 149:=⟨qe Tryz.func149 rfl rfl⟩
instance en150:EnC Tryz.prog 150:=⟨qe Tryz.func150 rfl rfl⟩
instance en151:EnC Tryz.prog 151:=⟨qe Tryz.func151 rfl rfl⟩
instance en152:EnC Tryz.prog 152:=⟨qe Tryz.func152 rfl rfl⟩
instance en153:EnC Tryz.prog 153:=⟨qe Tryz.func153 rfl rfl⟩
instance en160:EnC Tryz.prog 160:=⟨qe Tryz.func160 rfl rfl⟩
instance en164:EnC Tryz.prog 164:=⟨qe Tryz.func164 rfl rfl⟩
theorem ent165:Enters Tryz.prog 165:=qe Tryz.func165 rfl rfl
instance en165:EnC Tryz.prog 165:=⟨ent165⟩
instance en166:EnC Tryz.prog 166:=⟨qe Tryz.func166 rfl rfl⟩
instance en167:EnC Tryz.prog 167:=⟨qe Tryz.func167 rfl rfl⟩
instance en168:EnC Tryz.prog 168:=⟨qe Tryz.func168 rfl rfl⟩
instance en174:EnC Tryz.prog 174:=⟨qe Tryz.func174 rfl rfl⟩
theorem qvE (v:Value)(w:World):(Instr.makeInterface 178 v).run Tryz.prog w=.ok (.iface 178 v) w:=by simp[Instr.makeInterface,run_underlying Tryz.underlying178]
abbrev lostCh:List PanicEntry:=[{ v:=.iface 178 (.agg #[]),recovered:=false }]
theorem qvy (p q:Addr):qlP Tryz.prog 107 #[.pointer (some p),.pointer (some q)]:=by
  intro w
  refine callsD_of_wpS Tryz.func107 rfl fun c₀ cs hu=>?_
  apply wpS_seq
  apply wpS_region
  simp[wpOpsS,go_sem,recoverD,hu,Tryz.ntmps107,Exit.thenS]
  refine wpS_of_wp ?_
  go_wp2
  cases c₀
  simp_all [bodyPostS,results,Tryz.results107]
theorem qsi (w:World):(Instr.typeAssert (.iface 178 (.agg #[])) 20 178 true).run Tryz.prog w=.ok (.tuple #[.agg #[],.bool true]) w:=by
  simp[Instr.typeAssert,run_underlying Tryz.underlying178]
theorem eqn107 (x y:Operand)(w:World):(do eqGuard .eql 20 x y (.iface 178 (.agg #[])) .nilIface;binOp .eql 20 (.iface 178 (.agg #[])) .nilIface:Sem Value).run Tryz.prog w=.ok (.bool false) w:=by
  simp[go_sem]
set_option maxRecDepth 100000 in
theorem qiJ (g1 g2:Nat)(v1 v2:Value):qlQ Tryz.prog 107 #[.pointer (some ⟨g1,0,none⟩),.pointer (some ⟨g2,0,none⟩)] 178 (.agg #[]) [⟨g1,59,[v1]⟩,⟨g2,4,[v2]⟩] [⟨g1,59,[.slice none 0 0]⟩,⟨g2,4,[.bool false]⟩]:=by
  intro w hp
  refine callsD_of_wpS Tryz.func107 rfl fun c₀ cs hu=>?_
  apply wpS_seq
  apply wpS_region
  simp[wpOpsS,go_sem,recoverD,hu,Tryz.ntmps107,Exit.thenS]
  refine wpS_of_wp (qhc.1 ?_)
  refine (show SXC Tryz.prog none 11 [] (muts [⟨g1,59,[v1]⟩,⟨g2,4,[v2]⟩] []) w _ _ [(0,.pointer (some ⟨g1,0,none⟩)),(1,.pointer (some ⟨g2,0,none⟩)),(5,.iface 178 (.agg #[]))] [⟨g1,59,[v1]⟩,⟨g2,4,[v2]⟩] [] [] (some ()) () from ?_) rfl _ _ ⟨rfl,by simp,fun i v hv=>?_⟩ hp
  · refine qmC ?_
    refine qfi ?_
    refine qaS ?_
    refine qpI rfl rfl rfl (eqn107 _ _) rfl ?_
    refine qfj ?_
    refine qd1 ?_
    refine qb2 (b:=false) rfl (fun h=>by cases h) (fun _=>?_)
    refine qfi ?_
    refine qaS ?_
    refine qn4 rfl rfl qsi rfl ?_
    refine qhp rfl rfl rfl rfl ?_
    refine qhp rfl rfl rfl rfl ?_
    refine qfj ?_
    refine qd1 ?_
    refine qb2 (b:=true) rfl (fun _=>?_) (fun h=>by cases h)
    refine qfi ?_
    refine qaS ?_
    refine qmE rfl tf178 rfl (fun g=>?_)
    refine qb4 (i:=0) rfl rfl rfl tf178 rfl rfl rfl rfl rfl ?_
    refine qfj ?_
    refine qd1 ?_
    refine qaS ?_
    refine qb4 (i:=1) rfl rfl rfl tf59 rfl rfl rfl rfl rfl ?_
    refine qb4 (i:=2) rfl rfl rfl tf4 rfl rfl rfl rfl rfl ?_
    refine qfj ?_
    refine qpN ?_
    intro _ a w' hf hp'
    exact ⟨hf.defers,_,rfl,_,results_none rfl _ _ _,rfl,rfl,hp'.pick (.cons 1 rfl (.cons 1 rfl .nil)) .nil (by simp)⟩
  · simp only[qan] at hv
    split at hv
    · rename_i h;subst h;simpa using hv
    · split at hv
      · rename_i h;subst h;simpa using hv
      · split at hv
        · rename_i h;subst h;simpa using hv
        · cases hv
instance un2:UnF Tryz.prog 2 (.int .i64):=⟨Tryz.underlying2⟩
instance un3:UnF Tryz.prog 3 (.int .i64):=⟨Tryz.underlying3⟩
instance un4:UnF Tryz.prog 4 .bool:=⟨Tryz.underlying4⟩
instance un5:UnF Tryz.prog 5 (.int .u8):=⟨Tryz.underlying5⟩
instance un9:UnF Tryz.prog 9 .string:=⟨Tryz.underlying9⟩
instance un22:UnF Tryz.prog 22 (.slice 59):=⟨Tryz.underlying22⟩
instance un27:UnF Tryz.prog 27 (.slice 5):=⟨Tryz.underlying27⟩
instance un58:UnF Tryz.prog 58 (.int .u64):=⟨Tryz.underlying58⟩
instance un59:UnF Tryz.prog 59 (.slice 3):=⟨Tryz.underlying59⟩
instance un60:UnF Tryz.prog 60 (.slice 58):=⟨Tryz.underlying60⟩
instance un69:UnF Tryz.prog 69 (.slice 96):=⟨Tryz.underlying69⟩
instance un98:UnF Tryz.prog 98 (.int .u64):=⟨Tryz.underlying98⟩
instance un125:UnF Tryz.prog 125 (.slice 129):=⟨Tryz.underlying125⟩
theorem stm (c:Nat)(q:List Nat){p:List Nat}{A:Prop}(h:Stp (q++p) A):Stp (c::p) A:=⟨h.go⟩
set_option maxRecDepth 100000 in
theorem au0 (p:List Nat){A B:Prop}(t:B→Stp p A:=by
  intro h
  repeat (first
    | exact stp0 h
    | (refine stc 0 ?_;refine stk (fun h=>qfj h) ?_)
    | (refine stc 1 ?_;refine stk (fun h=>qhq rfl rfl rfl h) ?_)
    | (refine stc 2 ?_;refine stk (fun h=>qd1 h) ?_)
    | (refine stc 3 ?_;refine stk (fun h=>qfi h) ?_)
    | (refine stc 4 ?_;refine stk (fun h=>qaS h) ?_)
    | (refine stc 5 ?_;refine stk (fun h=>qgU rfl rfl rfl h) ?_)
    | (refine stc 6 ?_;refine qiX rfl rfl rfl (qfN rfl) ?_)
    | (refine stc 7 ?_;refine stk (fun h=>qu2 rfl rfl rfl h) ?_)
    | (refine stc 8 ?_;refine stk (fun h=>quR rfl (And.left h) (And.right h)) ?_)
    | (refine stc 9 ?_;refine stk (fun h=>qmM h) ?_)
    | (refine stc 10 ?_;refine stk (fun h=>qpG h) ?_)
    | (refine stc 11 ?_;refine qv1 rfl rfl rfl ?_)
    | (refine stc 12 ?_;refine stk (fun h=>qn3 h) ?_)
    | (refine stc 13 ?_;refine stk (fun h=>qlM rfl rfl inferInstance rfl h) ?_)
    | (refine stc 14 ?_;refine stk (fun h=>qmC h) ?_)
    | (refine stc 15 ?_;refine stk (fun h=>qhp rfl rfl rfl rfl h) ?_)
    | (refine stc 16 ?_;refine stk (fun h=>qr5 rfl rfl rfl rfl h) ?_)
    | (refine stc 17 ?_;refine stk (fun h=>qs1 h) ?_)
    | (refine stc 18 ?_;refine stk (fun h=>qwe rfl UnF.u rfl rfl h) ?_)
    | (refine stc 19 ?_;exact stz (qj ()))
    | (refine stc 20 ?_;refine stk (fun h=>qu4 h) ?_)
    | (refine stc 21 ?_;refine qv2 rfl (by kernel_rfl) rfl ?_)
    | (refine stc 22 ?_;refine stk (fun h=>qpN h) ?_)
    | (refine stc 23 ?_;refine stk (fun h=>qr6 rfl rfl rfl rfl h) ?_)
    | (refine stc 24 ?_;first
      | (refine sta 0 ?_;refine stk (fun h=>qap (i:=0) rfl rfl inferInstance rfl rfl (fun _=>rfl) rfl rfl h) ?_)
      | (refine sta 1 ?_;exact stz (qsZ))
      | (refine sta 2 ?_;refine qiX rfl rfl rfl (qd2 rfl inferInstance) ?_)
      | (refine sta 3 ?_;refine stk (fun h=>quH (by kernel_rfl) h) ?_)
      | (refine sta 4 ?_;refine stk (fun h=>qwd rfl rfl rfl rfl h) ?_)
      | (refine sta 5 ?_;refine stk (fun h=>quQ h) ?_)
      | (refine sta 6 ?_;refine stk (fun h=>qu5 h) ?_)
      | (refine sta 7 ?_;refine stk (fun h=>qpM (b:=true) rfl rfl rfl rfl h) ?_)
      | (refine sta 8 ?_;refine stk (fun h=>qpM (b:=false) rfl rfl rfl rfl h) ?_)
      | (refine sta 9 ?_;refine stk (fun h=>qv8 rfl rfl rfl h) ?_)
      | (refine sta 10 ?_;refine stk (fun h=>qb4 (i:=0) rfl rfl rfl inferInstance rfl rfl rfl rfl rfl h) ?_)
      | (refine sta 11 ?_;refine stk (fun h=>qk2 rfl UnF.u UnF.u rfl rfl h) ?_)
      | (refine sta 12 ?_;refine stk (fun h=>qmE rfl inferInstance rfl h) ?_)
      | (refine sta 13 ?_;refine stk (fun h=>qwn rfl rfl rfl rfl h) ?_)
      | (refine sta 14 ?_;refine stk (fun h=>qmG (j:=0) rfl rfl inferInstance rfl rfl (fun _=>rfl) rfl rfl h) ?_)
      | (refine sta 15 ?_;refine stk (fun h=>qwb rfl rfl rfl rfl h) ?_))
    | (refine stc 25 ?_;first
      | (refine sta 0 ?_;refine stk (fun h=>quM h) ?_)
      | (refine sta 1 ?_;refine stk (fun h=>qwl rfl rfl rfl rfl h) ?_)
      | (refine sta 2 ?_;refine stk (fun h=>qis Int (eI .i64) 3 1 h) ?_)
      | (refine sta 3 ?_;refine stk (fun h=>qwm rfl rfl rfl h) ?_)
      | (refine sta 4 ?_;refine stk (fun h=>qap (i:=0) rfl rfl inferInstance rfl rfl (by simp) rfl rfl h) ?_)
      | (refine sta 5 ?_;refine stk (fun h=>quL h) ?_)
      | (refine sta 6 ?_;refine stk (fun h=>qn8 rfl rfl rfl h) ?_)
      | (refine sta 7 ?_;refine stk (fun h=>qb4 (i:=1) rfl rfl rfl inferInstance rfl rfl rfl rfl rfl h) ?_)
      | (refine sta 8 ?_;refine qkU rfl rfl rfl (qH (i:=0) rfl inferInstance rfl rfl (fun _=>rfl) rfl) ?_)
      | (refine sta 9 ?_;refine stk (fun h=>qap (i:=1) rfl rfl inferInstance rfl rfl (by simp) rfl rfl h) ?_)
      | (refine sta 10 ?_;refine stk (fun h=>qxi (And.left h) (And.right h)) ?_)
      | (refine sta 11 ?_;refine stk (fun h=>qs0 h) ?_)
      | (refine sta 12 ?_;refine stk (fun h=>qu7 (qAE) (qAF×Nat) eN59 rN59 59 1 h) ?_)
      | (refine sta 13 ?_;refine stk (fun h=>qap (i:=1) rfl rfl inferInstance rfl rfl (fun _=>rfl) rfl rfl h) ?_)
      | (refine sta 14 ?_;refine stk (fun h=>qb4 (i:=2) rfl rfl rfl inferInstance rfl rfl rfl rfl rfl h) ?_)
      | (refine sta 15 ?_;refine stk (fun h=>quN h) ?_))
    | (refine stc 26 ?_;first
      | (refine sta 0 ?_;refine stk (fun h=>qfK Int (eI .i64) 3 1 h) ?_)
      | (refine sta 1 ?_;refine stk (fun h=>quY h) ?_)
      | (refine sta 2 ?_;refine stk (fun h=>qb3 (j:=0) (ql .i64) (by decide) rfl UnF.u inferInstance rfl rfl rfl rfl h) ?_)
      | (refine sta 3 ?_;refine stk (fun h=>qwc rfl rfl rfl rfl h) ?_)
      | (refine sta 4 ?_;exact stz (qa ((),())))
      | (refine sta 5 ?_;refine stk (fun h=>qW (.cons 0 rfl (.cons 0 rfl .nil)) (qx 0 rfl qr) h) ?_)
      | (refine sta 6 ?_;refine stk (fun h=>qwa h) ?_)
      | (refine sta 7 ?_;refine stk (fun h=>qW (.cons 0 rfl .nil) (qx 0 rfl qr) h) ?_)
      | (refine sta 8 ?_;refine stk (fun h=>qis Int (eI .u8) 5 1 h) ?_)
      | (refine sta 9 ?_;refine qiX rfl rfl rfl (qxn UnF.u rfl) ?_)
      | (refine sta 10 ?_;refine stk (fun h=>qb4 (i:=3) rfl rfl rfl inferInstance rfl rfl rfl rfl rfl h) ?_)
      | (refine sta 11 ?_;refine qkU rfl rfl rfl (qH (i:=1) rfl inferInstance rfl rfl (fun _=>rfl) rfl) ?_)
      | (refine sta 12 ?_;refine stk (fun h=>qW .nil (qx 0 rfl (qx 1 rfl (qx 2 rfl (qx 3 rfl (qx 4 rfl qr))))) h) ?_)
      | (refine sta 13 ?_;refine stk (fun h=>qap (i:=2) rfl rfl inferInstance rfl rfl (by simp) rfl rfl h) ?_)
      | (refine sta 14 ?_;refine stk (fun h=>qxh (And.left h) (And.right h)) ?_)
      | (refine sta 15 ?_;refine stk (fun h=>qsO (And.left h) (And.right h)) ?_))
    | (refine stc 27 ?_;first
      | (refine sta 0 ?_;refine stk (fun h=>qap (i:=2) rfl rfl inferInstance rfl rfl (fun _=>rfl) rfl rfl h) ?_)
      | (refine sta 1 ?_;refine stk (fun h=>qW (.cons 0 rfl (.cons 1 rfl .nil)) (qx 0 rfl (qjO 1 rfl qr)) h) ?_)
      | (refine sta 2 ?_;refine stk (fun h=>qwi rfl rfl rfl rfl h) ?_)
      | (refine sta 3 ?_;exact stz (qmL (.cons 0 rfl .nil)))
      | (refine sta 4 ?_;refine stk (fun h=>qg qop h) ?_)
      | (refine sta 5 ?_;refine stk (fun h=>qk4 (j:=0) kL (by decide) rfl UnF.u inferInstance rfl rfl rfl rfl h) ?_)
      | (refine sta 6 ?_;refine stk (fun h=>qwf rfl rfl rfl rfl h) ?_)
      | (refine sta 7 ?_;refine qiX rfl rfl rfl (qws UnF.u UnF.u rfl) ?_)
      | (refine sta 8 ?_;refine stk (fun h=>qb3 (j:=1) (ql .i64) (by decide) rfl UnF.u inferInstance rfl rfl rfl rfl h) ?_)
      | (refine sta 9 ?_;refine stk (fun h=>qgV (j:=0) rfl UnF.u inferInstance rfl rfl rfl rfl h) ?_)
      | (refine sta 10 ?_;refine stk (fun h=>qW (.cons 0 rfl .nil) (qx 1 rfl qr) h) ?_)
      | (refine sta 11 ?_;refine stk (fun h=>qr7 rfl rfl rfl rfl rfl h) ?_)
      | (refine sta 12 ?_;refine stk (fun h=>qj3 rfl rfl rfl rfl rfl h) ?_)
      | (refine sta 13 ?_;refine stk (fun h=>qW (.cons 1 rfl (.cons 1 rfl .nil)) (qx 0 rfl qr) h) ?_)
      | (refine sta 14 ?_;refine stk (fun h=>qjA Int (eI .i64) 3 1 h) ?_)
      | (refine sta 15 ?_;refine stk (fun h=>qpD (j:=0) rfl h) ?_))
    | (refine stc 28 ?_;first
      | (refine sta 0 ?_;refine stk (fun h=>quO h) ?_)
      | (refine sta 1 ?_;refine stk (fun h=>zr qg5 h) ?_)
      | (refine sta 2 ?_;refine stk (fun h=>qu3 h) ?_)
      | (refine sta 3 ?_;refine stk (fun h=>qg qlg h) ?_)
      | (refine sta 4 ?_;refine stk (fun h=>qn9 rfl rfl rfl rfl rfl h) ?_)
      | (refine sta 5 ?_;refine stk (fun h=>qv5 h) ?_)
      | (refine sta 6 ?_;refine stk (fun h=>qb3 (j:=0) (ql .u8) (by decide) rfl UnF.u inferInstance rfl rfl rfl rfl h) ?_)
      | (refine sta 7 ?_;refine stk (fun h=>zr qhV h) ?_)
      | (refine sta 8 ?_;refine stk (fun h=>qb3 (j:=0) (ql .u64) (by decide) rfl UnF.u inferInstance rfl rfl rfl rfl h) ?_)
      | (refine sta 9 ?_;refine stk (fun h=>quP h) ?_)
      | (refine sta 10 ?_;refine stk (fun h=>qB 0 (ql .i64) rfl UnF.u inferInstance rfl rfl rfl rfl rfl (.inr ⟨0,rfl⟩) rfl rfl h) ?_)
      | (refine sta 11 ?_;refine stk (fun h=>qg (fun h=>qjI F _ _ h) h) ?_)
      | (refine sta 12 ?_;refine stk (fun h=>qg qlh h) ?_)
      | (refine sta 13 ?_;refine stk (fun h=>zr qnk h) ?_)
      | (refine sta 14 ?_;refine stk (fun h=>qwg rfl rfl rfl rfl h) ?_)
      | (refine sta 15 ?_;refine stk (fun h=>qgy (j:=1) (ql .i64) (by decide) rfl h) ?_))
    | (refine stc 29 ?_;first
      | (refine sta 0 ?_;refine qkU rfl rfl rfl (qH (i:=2) rfl inferInstance rfl rfl (fun _=>rfl) rfl) ?_)
      | (refine sta 1 ?_;refine stk (fun h=>qjA Int (eI .u8) 5 1 h) ?_)
      | (refine sta 2 ?_;refine stk (fun h=>qeU 24 rfl (by kernel_rfl) (.cons 0 rfl (.cons 1 rfl .nil)) h) ?_)
      | (refine sta 3 ?_;exact stz (zU ()))
      | (refine sta 4 ?_;refine stk (fun h=>qv7 rfl rfl rfl rfl h) ?_)
      | (refine sta 5 ?_;refine stk (fun h=>qg qsg h) ?_)
      | (refine sta 6 ?_;refine stk (fun h=>qap (i:=3) rfl rfl inferInstance rfl rfl (fun _=>rfl) rfl rfl h) ?_)
      | (refine sta 7 ?_;refine stk (fun h=>qap (i:=4) rfl rfl inferInstance rfl rfl (fun _=>rfl) rfl rfl h) ?_)
      | (refine sta 8 ?_;refine stk (fun h=>qgy (j:=0) (ql .i64) (by decide) rfl h) ?_)
      | (refine sta 9 ?_;refine stk (fun h=>qg qna h) ?_)
      | (refine sta 10 ?_;refine stk (fun h=>qW (.cons 1 rfl (.cons 1 rfl .nil)) (qx 0 rfl (qx 1 rfl (qx 2 rfl (qx 3 rfl qr)))) h) ?_)
      | (refine sta 11 ?_;refine stk (fun h=>qiq 0 rfl h) ?_)
      | (refine sta 12 ?_;refine stk (fun h=>qg qpY h) ?_)
      | (refine sta 13 ?_;refine stk (fun h=>qg qox h) ?_)
      | (refine sta 14 ?_;refine stk (fun h=>qfK Int (eI .u64) 58 1 h) ?_)
      | (refine sta 15 ?_;refine stk (fun h=>qg qp1 h) ?_))
    | (refine stc 30 ?_;first
      | (refine sta 0 ?_;refine stk (fun h=>zr qoq h) ?_)
      | (refine sta 1 ?_;refine stk (fun h=>quS (qAE) (qAF×Nat) eN59 rN59 59 1 h) ?_)
      | (refine sta 2 ?_;refine stk (fun h=>qkZ kL rfl UnF.u inferInstance rfl rfl rfl rfl (.cons 1 rfl (.cons 0 rfl .nil)) rfl rfl h) ?_)
      | (refine sta 3 ?_;refine stk (fun h=>qgy (j:=0) (ql .u8) (by decide) rfl h) ?_)
      | (refine sta 4 ?_;refine stk (fun h=>qpD (j:=2) rfl h) ?_)
      | (refine sta 5 ?_;refine stk (fun h=>qW (.cons 0 rfl (.cons 0 rfl (.cons 0 rfl (.cons 0 rfl (.cons 0 rfl (.cons 0 rfl .nil)))))) (qx 2 rfl (qx 3 rfl (qx 4 rfl qr))) h) ?_)
      | (refine sta 6 ?_;refine stk (fun h=>qxj rfl rfl rfl rfl h) ?_)
      | (refine sta 7 ?_;refine stk (fun h=>qmF (j:=0) rfl UnF.u UnF.u rfl rfl rfl h) ?_)
      | (refine sta 8 ?_;refine stk (fun h=>qg qp4 h) ?_)
      | (refine sta 9 ?_;refine stk (fun h=>qgV (j:=1) rfl UnF.u inferInstance rfl rfl rfl rfl h) ?_)
      | (refine sta 10 ?_;refine stk (fun h=>qn6 rfl rfl rfl h) ?_)
      | (refine sta 11 ?_;refine stk (fun h=>qap (i:=3) rfl rfl inferInstance rfl rfl (by simp) rfl rfl h) ?_)
      | (refine sta 12 ?_;refine stk (fun h=>qg qiz h) ?_)
      | (refine sta 13 ?_;refine stk (fun h=>qg qov h) ?_)
      | (refine sta 14 ?_;refine stk (fun h=>qW .nil (qjO 0 rfl qr) h) ?_)
      | (refine sta 15 ?_;refine stk (fun h=>qb3 (j:=0) kJ (by decide) rfl UnF.u inferInstance rfl rfl rfl rfl h) ?_))
    | (refine stc 31 ?_;first
      | (refine sta 0 ?_;refine stk (fun h=>qmG (j:=0) rfl rfl inferInstance rfl rfl (by simp) rfl rfl h) ?_)
      | (refine sta 1 ?_;refine stk (fun h=>zr qp3 h) ?_)
      | (refine sta 2 ?_;refine stk (fun h=>qg qng h) ?_)
      | (refine sta 3 ?_;refine stk (fun h=>qW (.cons 0 rfl (.cons 0 rfl .nil)) (qx 0 rfl (qx 1 rfl (qx 2 rfl (qx 3 rfl qr)))) h) ?_)
      | (refine sta 4 ?_;refine stk (fun h=>qg qlA h) ?_)
      | (refine sta 5 ?_;refine stk (fun h=>qW (.cons 2 rfl .nil) (qx 0 rfl (qjO 1 rfl qr)) h) ?_)
      | (refine sta 6 ?_;refine stk (fun h=>qg qor h) ?_)
      | (refine sta 7 ?_;refine stk (fun h=>qj2 (j:=0) (ql .i64) rfl UnF.u inferInstance rfl rfl rfl rfl rfl h) ?_)
      | (refine sta 8 ?_;refine stk (fun h=>qt (vs:=[]) (ys:=([]:qAE)) (ql .i64) (by decide) rfl UnF.u inferInstance rfl rfl rfl rfl rfl (by decide) h) ?_)
      | (refine sta 9 ?_;refine stk (fun h=>qap (i:=4) rfl rfl inferInstance rfl rfl (by simp) rfl rfl h) ?_)
      | (refine sta 10 ?_;refine stk (fun h=>zY 0 _ rfl rfl rfl (qfN rfl) rfl h) ?_)
      | (refine sta 11 ?_;refine stk (fun h=>zY 1 _ rfl rfl rfl (qfN rfl) rfl h) ?_)
      | (refine sta 12 ?_;refine stk (fun h=>zY 2 _ rfl rfl rfl (qd2 rfl inferInstance) rfl h) ?_)
      | (refine sta 13 ?_;refine stk (fun h=>zY 4 _ rfl rfl rfl (qfN rfl) rfl h) ?_)
      | (refine sta 14 ?_;refine stk (fun h=>qW (.cons 0 rfl (.cons 0 rfl (.cons 0 rfl (.cons 0 rfl .nil)))) (qx 0 rfl qr) h) ?_)
      | (refine sta 15 ?_;refine stk (fun h=>qk4 (j:=2) kL (by decide) rfl UnF.u inferInstance rfl rfl rfl rfl h) ?_))
    | (refine stc 32 ?_;first
      | (refine sta 0 ?_;refine stk (fun h=>qg qmV h) ?_)
      | (refine sta 1 ?_;refine stk (fun h=>qgy (j:=2) (ql .i64) (by decide) rfl h) ?_)
      | (refine sta 2 ?_;refine stk (fun h=>qg qok h) ?_)
      | (refine sta 3 ?_;refine stk (fun h=>qg qjH h) ?_)
      | (refine sta 4 ?_;refine stk (fun h=>qg (fun h=>qol F _ _ _ _ h) h) ?_)
      | (refine sta 5 ?_;refine stk (fun h=>qg qm1 h) ?_)
      | (refine sta 6 ?_;refine stk (fun h=>qg qlp h) ?_)
      | (refine sta 7 ?_;refine stk (fun h=>qg qoy h) ?_)
      | (refine sta 8 ?_;refine stk (fun h=>qW (.cons 0 rfl (.cons 0 rfl (.cons 0 rfl (.cons 0 rfl (.cons 0 rfl (.cons 0 rfl .nil)))))) (qx 0 rfl (qx 1 rfl (qx 2 rfl qr))) h) ?_)
      | (refine sta 9 ?_;refine stk (fun h=>qcB rfl rfl rfl rfl rfl h) ?_)
      | (refine sta 10 ?_;refine stk (fun h=>qwo rfl rfl rfl rfl h) ?_)
      | (refine sta 11 ?_;refine stk (fun h=>qg qlG h) ?_)
      | (refine sta 12 ?_;refine stk (fun h=>qsT rfl UnF.u rfl rfl rfl h) ?_)
      | (refine sta 13 ?_;refine stk (fun h=>qb2 rfl (And.left h) (And.right h)) ?_)
      | (refine sta 14 ?_;refine stk (fun h=>qg qf6 h) ?_)
      | (refine sta 15 ?_;refine stk (fun h=>zr qp2 h) ?_))
    | (refine stc 33 ?_;first
      | (refine sta 0 ?_;refine stk (fun h=>zr qiu h) ?_)
      | (refine sta 1 ?_;refine stk (fun h=>qg qoH h) ?_)
      | (refine sta 2 ?_;refine stk (fun h=>qeU 18 rfl (by kernel_rfl) (.cons 0 rfl .nil) h) ?_)
      | (refine sta 3 ?_;refine stk (fun h=>qg qi5 h) ?_)
      | (refine sta 4 ?_;refine stk (fun h=>zr qiA h) ?_)
      | (refine sta 5 ?_;refine stk (fun h=>qg qjK h) ?_)
      | (refine sta 6 ?_;refine stk (fun h=>qg qia h) ?_)
      | (refine sta 7 ?_;refine stk (fun h=>qwj rfl UnF.u rfl rfl rfl h) ?_)
      | (refine sta 8 ?_;refine stk (fun h=>qg qeO h) ?_)
      | (refine sta 9 ?_;refine stk (fun h=>qfK (Int×Int) eS129 129 2 h) ?_)
      | (refine sta 10 ?_;refine stk (fun h=>qW (.cons 0 rfl (.cons 0 rfl (.cons 0 rfl (.cons 0 rfl (.cons 0 rfl .nil))))) (qx 0 rfl qr) h) ?_)
      | (refine sta 11 ?_;refine stk (fun h=>qg qj9 h) ?_)
      | (refine sta 12 ?_;refine stk (fun h=>qir 2 rfl h) ?_)
      | (refine sta 13 ?_;refine stk (fun h=>zr qie h) ?_)
      | (refine sta 14 ?_;refine stk (fun h=>qir 0 rfl h) ?_)
      | (refine sta 15 ?_;refine stk (fun h=>qfK Int (eI .u8) 5 1 h) ?_))
    | (refine stc 34 ?_;first
      | (refine sta 0 ?_;refine stk (fun h=>qg qoC h) ?_)
      | (refine sta 1 ?_;refine stk (fun h=>qg qnc h) ?_)
      | (refine sta 2 ?_;refine stk (fun h=>qwk rfl rfl rfl h) ?_)
      | (refine sta 3 ?_;refine stk (fun h=>qg qjN h) ?_)
      | (refine sta 4 ?_;refine stk (fun h=>zr qh3 h) ?_)
      | (refine sta 5 ?_;refine stk (fun h=>qg qm8 h) ?_)
      | (refine sta 6 ?_;refine stk (fun h=>qg qnj h) ?_)
      | (refine sta 7 ?_;refine stk (fun h=>qg qiv h) ?_)
      | (refine sta 8 ?_;refine stk (fun h=>qu0 (ql .i64) rfl UnF.u inferInstance rfl rfl rfl rfl rfl rfl rfl h) ?_)
      | (refine sta 9 ?_;exact stz (quT))
      | (refine sta 10 ?_;refine stk (fun h=>qv9 rfl UnF.u rfl rfl h) ?_)
      | (refine sta 11 ?_;refine stk (fun h=>quW (i:=0) (ql .i64) rfl UnF.u inferInstance rfl rfl rfl rfl h) ?_)
      | (refine sta 12 ?_;refine stk (fun h=>qg qlF h) ?_)
      | (refine sta 13 ?_;refine stk (fun h=>qg qgl h) ?_)
      | (refine sta 14 ?_;refine stk (fun h=>zr qg3 h) ?_)
      | (refine sta 15 ?_;refine stk (fun h=>qiq 1 rfl h) ?_))
    | (refine stc 35 ?_;first
      | (refine sta 0 ?_;refine stk (fun h=>zY 5 _ rfl rfl rfl (qfN rfl) rfl h) ?_)
      | (refine sta 1 ?_;refine stk (fun h=>zY 6 _ rfl rfl rfl (qfN rfl) rfl h) ?_)
      | (refine sta 2 ?_;refine stk (fun h=>zY 7 _ rfl rfl rfl (qfN rfl) rfl h) ?_)
      | (refine sta 3 ?_;refine stk (fun h=>zY 8 _ rfl rfl rfl (qd2 rfl inferInstance) rfl h) ?_)
      | (refine sta 4 ?_;refine stk (fun h=>zY 11 _ rfl rfl rfl (qfN rfl) rfl h) ?_)
      | (refine sta 5 ?_;refine stk (fun h=>zY 12 _ rfl rfl rfl (qfN rfl) rfl h) ?_)
      | (refine sta 6 ?_;refine stk (fun h=>zY 18 _ rfl rfl rfl (qfN rfl) rfl h) ?_)
      | (refine sta 7 ?_;refine stk (fun h=>qW (.cons 0 rfl (.cons 0 rfl (.cons 0 rfl (.cons 0 rfl (.cons 0 rfl .nil))))) (qx 0 rfl (qx 1 rfl qr)) h) ?_)
      | (refine sta 8 ?_;refine stk (fun h=>qg qoG h) ?_)
      | (refine sta 9 ?_;refine stk (fun h=>qgy (j:=2) (ql .u8) (by decide) rfl h) ?_)
      | (refine sta 10 ?_;refine stk (fun h=>qiZ 0 (ql .u8) rfl h) ?_)
      | (refine sta 11 ?_;refine stk (fun h=>qW (.cons 0 rfl (.cons 1 rfl .nil)) (qx 0 rfl (qx 1 rfl qr)) h) ?_)
      | (refine sta 12 ?_;refine stk (fun h=>qlN rfl rfl rfl h) ?_)
      | (refine sta 13 ?_;refine stk (fun h=>qW (.cons 0 rfl (.cons 0 rfl (.cons 0 rfl .nil))) (qx 0 rfl (qx 1 rfl qr)) h) ?_)
      | (refine sta 14 ?_;refine stk (fun h=>qg qoA h) ?_)
      | (refine sta 15 ?_;refine stk (fun h=>qg qoz h) ?_))
    | (refine stc 36 ?_;first
      | (refine sta 0 ?_;refine stk (fun h=>qg qpW h) ?_)
      | (refine sta 1 ?_;refine stk (fun h=>qW .nil (qx 0 rfl (qx 1 rfl (qx 2 rfl qr))) h) ?_)
      | (refine sta 2 ?_;refine stk (fun h=>qb3 (j:=2) (ql .i64) (by decide) rfl UnF.u inferInstance rfl rfl rfl rfl h) ?_)
      | (refine sta 3 ?_;refine stk (fun h=>qg qom h) ?_)
      | (refine sta 4 ?_;refine stk (fun h=>qgV (j:=2) rfl UnF.u inferInstance rfl rfl rfl rfl h) ?_)
      | (refine sta 5 ?_;refine stk (fun h=>qir 1 rfl h) ?_)
      | (refine sta 6 ?_;refine stk (fun h=>qg qpX h) ?_)
      | (refine sta 7 ?_;refine stk (fun h=>qg qm2 h) ?_)
      | (refine sta 8 ?_;refine stk (fun h=>qg qj5 h) ?_)
      | (refine sta 9 ?_;refine stk (fun h=>qg qll h) ?_)
      | (refine sta 10 ?_;refine stk (fun h=>qg qlf h) ?_)
      | (refine sta 11 ?_;refine stk (fun h=>qg qlt h) ?_)
      | (refine sta 12 ?_;refine stk (fun h=>qB 0 (ql .i64) rfl UnF.u inferInstance rfl rfl rfl rfl rfl (.inr ⟨2,rfl⟩) rfl rfl h) ?_)
      | (refine sta 13 ?_;refine stk (fun h=>qg qm3 h) ?_)
      | (refine sta 14 ?_;refine stk (fun h=>qg qm0 h) ?_)
      | (refine sta 15 ?_;refine stk (fun h=>qW (.cons 0 rfl (.cons 0 rfl .nil)) (qx 0 rfl (qx 1 rfl (qx 2 rfl qr))) h) ?_))
    | (refine stc 37 ?_;first
      | (refine sta 0 ?_;refine stk (fun h=>qg qmX h) ?_)
      | (refine sta 1 ?_;refine stk (fun h=>qg qlr h) ?_)
      | (refine sta 2 ?_;refine stk (fun h=>quK h) ?_)
      | (refine sta 3 ?_;refine stk (fun h=>qg (fun h=>qle F _ h) h) ?_)
      | (refine sta 4 ?_;refine stk (fun h=>qg qow h) ?_)
      | (refine sta 5 ?_;refine stk (fun h=>qg qlq h) ?_))
    | apply stm 57 [0,2]
    | apply stm 58 [5,0,2]
    | apply stm 59 [3,4]
    | apply stm 60 [3,4,1]
    | apply stm 61 [5,0,2,12]
    | apply stm 62 [13,24,0]
    | apply stm 63 [0,2,8]
    | apply stm 64 [10,2]
    | apply stm 65 [24,5,17]
    | apply stm 66 [17,24,6]
    | apply stm 67 [0,24,1]
    | apply stm 68 [3,4,5,0,2]
    | apply stm 69 [3,4,1,1]
    | apply stm 70 [15,15]
    | apply stm 71 [7,7]
    | apply stm 72 [3,4,24,9]
    | apply stm 73 [24,5,17,17,24,6]
    | apply stm 74 [5,0,2,12,9]
    | apply stm 75 [3,3,4,1]
    | apply stm 76 [7,7,7,7]
    | apply stm 77 [24,4,0,2,8]
    | apply stm 78 [20,9]
    | apply stm 79 [5,5,0,2]
    | apply stm 80 [24,4,24,8]
    | apply stm 81 [6,0,6,1]
    | apply stm 82 [24,15,0,2,8]
    | apply stm 83 [23,0,2,8]
    | apply stm 84 [24,10,0,2]
    | apply stm 85 [25,1,0,2,8]
    | apply stm 86 [16,5]
    | apply stm 87 [0,22]
    | apply stm 88 [4,1]
    | apply stm 89 [4,1,16,5]
    | apply stm 90 [10,2,3]
    | apply stm 91 [10,2,3,14]
    | apply stm 92 [1,15,15]
    | apply stm 93 [13,25,13]
    | apply stm 94 [3,4,5]
    | apply stm 95 [5,0,2,12,19]
    | apply stm 96 [5,0,2,12,9,19]
    | apply stm 97 [24,7,0]
    | apply stm 98 [25,6,13]
    | apply stm 99 [4,1,1]
    | apply stm 100 [11,53,11,54]
    | apply stm 101 [25,3,0,2,8]
    | apply stm 102 [25,0,3,4,5,0,2]
    | apply stm 103 [1,24,13]
    | apply stm 104 [11,49,11,50]
    | apply stm 105 [11,12,11,13]
    | apply stm 106 [5,0,2,12,9,25,12]
    | apply stm 107 [25,11,27,3]
    | apply stm 108 [14,26,0]
    | apply stm 109 [5,0,2,12,9,25,2]
    | apply stm 110 [11,45,11,46]
    | apply stm 111 [11,19,11,20]
    | apply stm 112 [11,10,11,11]
    | apply stm 113 [6,0,6,1,6,2]
    | apply stm 114 [5,5,0,2,3,3,4,1]
    | apply stm 115 [6,56,24,3]
    | apply stm 116 [3,4,13,24,0]
    | apply stm 117 [24,8,0]
    | apply stm 118 [6,4,6,5]
    | apply stm 119 [3,4,25,9]
    | apply stm 120 [25,15,3,4,24,9]
    | apply stm 121 [3,4,1,1,18]
    | apply stm 122 [6,51,6,52]
    | apply stm 123 [6,12,6,13]
    | apply stm 124 [3,4,25,4]
    | apply stm 125 [25,6,13,24,0]
    | apply stm 126 [25,5,3,4,5,0,2]
    | apply stm 127 [11,41,11,42]
    | apply stm 128 [3,4,24,12]
    | apply stm 129 [24,2,3,25,8,4]
    | apply stm 130 [3,4,1,1,18,23,0,2,8]
    | apply stm 131 [20,9,25,2]
    | apply stm 132 [7,7,24,7]
    | apply stm 133 [25,5,3,4,24,9]
    | apply stm 134 [24,10,0]
    | apply stm 135 [1,24,11]
    | apply stm 136 [6,47,6,48]
    | apply stm 137 [3,4,23]
    | apply stm 138 [3,4,23,0,2]
    | apply stm 139 [3,4,23,0,2,3]
    | apply stm 140 [3,4,23,0,2,3,8]
    | apply stm 141 [11,8,11,9]
    | apply stm 142 [6,55,6,56,24,3]
    | apply stm 143 [24,14,5,0,2]
    | apply stm 144 [24,15,1]
    | apply stm 145 [11,36,11,37]
    | apply stm 146 [11,15,11,16]
    | apply stm 147 [5,0,2,12,9,20,9]
    | apply stm 148 [1,15,15,15]
    | apply stm 149 [24,5,17,17,24,6,26,4]
    | apply stm 150 [6,6,6,7]
    | apply stm 151 [6,43,6,44]
    | apply stm 152 [6,21,6,22]
    | apply stm 153 [6,17,6,18]
    | apply stm 154 [6,10,6,11]
    | apply stm 155 [25,0,3,4,24,9]
    | apply stm 156 [11,12,11,13,11,14]
    | apply stm 157 [10,22]
    | apply stm 158 [5,0,2,12,9,20,9,9]
    | apply stm 159 [0,26,5]
    | apply stm 160 [20,9,19]
    | apply stm 161 [6,39,11,40]
    | apply stm 162 [0,2,14]
    | apply stm 163 [24,14,24,11]
    | apply stm 164 [11,32,11,33]
    | apply stm 165 [0,26,12]
    | apply stm 166 [24,2,3,26,11,4]
    | apply stm 167 [24,10,5,0,2]
    | apply stm 168 [3,4,5,0,2,14]
    | apply stm 169 [3,4,1,18]
    | apply stm 170 [25,14,0,26,5]
    | apply stm 171 [6,8,6,9]
    | apply stm 172 [5,0,22]
    | apply stm 173 [5,0,22,2]
    | apply stm 174 [7,24,7])):Stv p B A:=⟨fun h=>(t h).go⟩
theorem au (p:List Nat){A B:Prop}(h:B)(t:Stv p B A:=by exact au0 _):A:=t.go h
theorem av (p:List Nat){A B C:Prop}(h:B)(k:C)(t:Stv p (B∧C) A:=by exact au0 _):A:=t.go ⟨h,k⟩
theorem az (p:List Nat){A:Prop}(t:Stv p True A:=by exact au0 _):A:=t.go trivial
set_option maxHeartbeats 4000000 in
theorem qlA {F:Nat}{x1:List (qAE)}{a2:qAF}{c3:Nat}{s3:List (qAF×Nat)}{r:Int}(hm:qbe F x1=some r) :
    Pure Tryz.prog 18 [.agg #[.slice a2 x1.length c3]] [SlN eN59 iN59 1 (.slice a2 x1.length c3) x1 s3] Unit (fun _=>qAG r) (fun _=>[]) (fun _=>[]):=by
 refine qk Tryz.func18 rfl Tryz.ntmps18 rfl hm (fun w=>?_)
 refine au [133] ?_
 intro g4
 refine av [58,116,18,58,75,77] ?_ ?_
 intro _
 exact az [59,96]
 intro _
 refine au [64,68] ?_
 refine qc (fun ((x0,_):(Int×Unit))=>([(4,qAG x0)],[],[],[],qdO F x0)) ?_ ?_
 refine au [116,18,1,162] ?_
 refine qi (fun (((x2,x3),_):((Int×Int)×Unit))=>([(3,qAG (x1.length:Int)),(4,qAG x2),(16,.slice a2 x1.length c3),(17,qAG (x1.length:Int)),(18,qAG x3)],[],[],[SlN eN59 iN59 1 (.slice a2 x1.length c3) x1 s3])) (fun k (s:((Int×Int)×Unit))=>zm F x1 k s.1) ((0,0),()) F ?_
 intro k0
 rintro ⟨⟨x2,x3⟩,_⟩
 try dsimp only
 refine qm (m':=qby F x1 (zm F x1 k0) x2 x3) rfl ?_
 refine av [140] ?_ ?_
 intro _
 refine au [64] ?_
 refine qc (fun ((x4,_):(Int×Unit))=>([(3,qAG (x1.length:Int)),(4,qAG x4),(16,.slice a2 x1.length c3),(17,qAG (x1.length:Int)),(18,qAG x3)],[],[],[SlN eN59 iN59 1 (.slice a2 x1.length c3) x1 s3],qdP F (zm F x1 k0) x3 x4)) ?_ ?_
 refine au [14,59,27,5] ?_
 intro x5 e0 g0 b0 o0
 refine au [143,68] ?_
 refine qc (fun ((_,_):(Unit×Unit))=>([(3,qAG (x1.length:Int)),(4,qAG x2),(6,.slice g0.1 x5.length g0.2),(16,.slice a2 x1.length c3),(17,qAG (x1.length:Int)),(18,qAG x3)],[],[],[Sl (eI .i64) 1 (.slice g0.1 x5.length g0.2) x5,SlN eN59 iN59 1 (.slice a2 x1.length c3) x1 s3],qbA F (zm F x1 k0) x2 x3 x5)) ?_ ?_
 refine au [169,1,162] ?_
 refine qi (fun (((x6,x7),_):((Int×Int)×Unit))=>([(3,qAG (x1.length:Int)),(4,qAG x2),(6,.slice g0.1 x5.length g0.2),(7,qAG x6),(16,.slice a2 x1.length c3),(17,qAG (x1.length:Int)),(18,qAG x3),(22,.slice g0.1 x5.length g0.2),(23,qAG (x5.length:Int)),(24,qAG x7)],[],[],[Sl (eI .i64) 1 (.slice g0.1 x5.length g0.2) x5,SlN eN59 iN59 1 (.slice a2 x1.length c3) x1 s3])) (fun k (s:((Int×Int)×Unit))=>yV F (zm F x1 k0) x1 x2 x3 x5 k s.1) ((-1,0),()) F ?_
 intro k1
 rintro ⟨⟨x6,x7⟩,_⟩
 try dsimp only
 refine qm (m':=qbz F (zm F x1 k0) x1 x2 x3 x5 (yV F (zm F x1 k0) x1 x2 x3 x5 k1) x6 x7) rfl ?_
 refine av [140] ?_ ?_
 intro _
 refine au [91,59,26,2] ?_
 intro x8 e1 b1 o1
 refine au [143,3,14,60,23,1] ?_
 refine qC 4 (decide (x8<0)) [(3,qAG (x1.length:Int)),(4,qAG x2),(6,.slice g0.1 x5.length g0.2),(7,qAG x6),(16,.slice a2 x1.length c3),(17,qAG (x1.length:Int)),(18,qAG x3),(22,.slice g0.1 x5.length g0.2),(23,qAG (x5.length:Int)),(24,qAG x7),(9,qAG x8),(35,.bool ((decide (x8<0)) || (decide ((x1.length:Int)≤x8))))] (fun h0=>?_) (fun h0=>?_) ?_
 refine qb (os:=_) rfl (qp (k:=31) rfl h0 ?_)
 refine au [71,174] ?_
 refine qd (d:=35) (v:=.bool ((decide (x8<0)) || (decide ((x1.length:Int)≤x8)))) rfl (by rw[h0];simp only[qyg]) ?_
 exact az [67]
 refine qb (os:=_) rfl (qo (k:=31) rfl h0 ?_)
 refine au [1,1,26,3,24,8] ?_
 refine qd (d:=35) (v:=.bool ((decide (x8<0)) || (decide ((x1.length:Int)≤x8)))) rfl (by rw[h0];simp only[qyd]) ?_
 exact az [67]
 refine qb (os:=_) rfl ?_
 refine av [58,8] ?_ ?_
 intro _
 exact az [59,61,78,78,9,78,78,9,160]
 intro _
 refine av [69,27,6,58,8] ?_ ?_
 intro _
 exact az [59,61,78,78,9,78,78,9,160]
 intro _
 refine au [157,2,88,173,4,16,1,0] ?_
 exact qh ((x8,iadd .i64 x7 1),())
 intro _
 exact az [149]
 rintro ⟨_,_⟩
 try dsimp only
 refine au [99,18,86,87] ?_
 exact qa (iadd .i64 x2 (x5.length:Int),())
 rintro ⟨x4,_⟩
 try dsimp only
 refine au [4,16,1,0] ?_
 exact qh ((x4,iadd .i64 x3 1),())
 intro _
 refine au [73] ?_
 exact qa (x2,())
 rintro ⟨x0,_⟩
 try dsimp only
 refine av [75,77] ?_ ?_
 intro _
 exact az [59,96]
 intro _
 exact az [64,59,95]
theorem qnk {F:Nat}{x1:qAE}{a2:qAF}{c3:Nat}{x4:Int}{r:qAE}(hm:vo F x1 x4=some r) :
    PureM Tryz.prog 33 [.slice a2 x1.length c3,.int .u64 x4] [] [Ro (eI .u8) 5 1 (.slice a2 x1.length c3) x1] [] (qAF×Nat) (fun g=>.slice g.1 r.length g.2) (fun _=>[]) (fun g=>[Ro (eI .u8) 5 1 (.slice g.1 r.length g.2) r]):=by
 refine zZ Tryz.func33 rfl Tryz.ntmps33 rfl hm (fun w=>?_)
 refine au [102] ?_
 refine qc (fun (((x48,x49),(a46,c47)):((qAE×Int)×(qAF×Nat)))=>([(0,.slice a46 x48.length c47),(1,.int .u64 x49)],[],[Ro (eI .u8) 5 1 (.slice a46 x48.length c47) x48],[],qe2 F x48 x49)) ?_ ?_
 refine au [14] ?_
 refine qi (fun (((x69,x70),(a67,c68)):((qAE×Int)×(qAF×Nat)))=>([(0,.slice a67 x69.length c68),(1,.int .u64 x70)],[],[Ro (eI .u8) 5 1 (.slice a67 x69.length c68) x69],[])) (fun k (s:((qAE×Int)×(qAF×Nat)))=>jl F k s.1) ((x1,x4),(a2,c3)) F ?_
 intro k83
 rintro ⟨⟨x69,x70⟩,⟨a67,c68⟩⟩
 try dsimp only
 refine qm (m':=qdi F (jl F k83) x69 x70) rfl ?_
 refine av [75,26,3,63] ?_ ?_
 intro _
 refine au [91,99,24,11,30,6] ?_
 refine qt (vs:=[.int .u8 (ior .u8 (iconv .u8 x70) 128)]) (ys:=([ior .u8 (iconv .u8 x70) 128]:qAE)) (ql .u8) (by decide) rfl Tryz.underlying27 tf5 rfl rfl rfl rfl rfl (by decide) (fun a90 c91=>qB 1 (ql .u8) rfl Tryz.underlying27 tf5 rfl rfl rfl rfl rfl (.inl ⟨0,_,rfl⟩) rfl rfl (fun x92 e92 a93 c94=>?_))
 refine au [173,88,28,4,5,0] ?_
 exact qh ((x92,ishr .u64 x70 7),(a93,c94))
 intro _
 refine au [73] ?_
 exact qa ((x69,x70),(a67,c68))
 rintro ⟨⟨x48,x49⟩,⟨a46,c47⟩⟩
 try dsimp only
 refine au [69,24,11] ?_
 refine qt (vs:=[.int .u8 (iconv .u8 x49)]) (ys:=([iconv .u8 x49]:qAE)) (ql .u8) (by decide) rfl Tryz.underlying27 tf5 rfl rfl rfl rfl rfl (by decide) (fun a50 c51=>qB 1 (ql .u8) rfl Tryz.underlying27 tf5 rfl rfl rfl rfl rfl (.inl ⟨0,_,rfl⟩) rfl rfl (fun x52 e52 a53 c54=>?_))
 refine au [61] ?_
 exact zU (a53,c54)
theorem qlG {F:Nat}{x1:Int}{r:Int}(hm:qcQ F x1=some r) :
    Pure Tryz.prog 59 [qAG x1] [] Unit (fun _=>.int .u64 r) (fun _=>[]) (fun _=>[]):=by
 refine qk Tryz.func59 rfl Tryz.ntmps59 rfl hm (fun w=>?_)
 refine au [126,60,24,11,32,9,1,28,4,24,11,32,10,5,26,1] ?_
 intro x2 e2
 refine qd (d:=2) (v:=.int .u64 x2) rfl (by rw[e2] <;> rfl) ?_
 exact az [57,12,19]
theorem qiw {F:Nat}{g1:Nat}{x2:Int}{x3:Bool}{x4:Int}{r:(Int×Int×Bool)}(hm:qbv F x2 x3 x4=some r) :
    PureM Tryz.prog 45 [.pointer (some ⟨g1,0,none⟩),qAG x4] [⟨g1,101,[qAG x2,.bool x3]⟩] [] [] Unit (fun _=>.int .u64 r.1) (fun _=>[⟨g1,101,[qAG r.2.1,.bool r.2.2]⟩]) (fun _=>[]):=by
 refine zZ Tryz.func45 rfl Tryz.ntmps45 rfl hm (fun w=>?_)
 refine au [102] ?_
 refine qc (fun ((x8,_):(Int×Unit))=>([(0,.pointer (some ⟨g1,0,none⟩)),(1,qAG x4),(4,.int .u64 x8)],[⟨g1,101,[qAG x2,.bool x3]⟩],[],[],qbU F x4 x8)) ?_ ?_
 refine av [60,125,63] ?_ ?_
 intro _
 refine au [99,125,24,13,24,13,24,11,5,26,1] ?_
 intro x9 e9
 refine qd (d:=4) (v:=.int .u64 x9) rfl (by rw[e9] <;> rfl) ?_
 refine au [0] ?_
 exact qa (x9,())
 intro _
 refine au [99,125,24,13,32,11] ?_
 intro x10 e10 _
 refine au [5,0] ?_
 exact qa (x10,())
 rintro ⟨x8,_⟩
 try dsimp only
 exact az [69,1,98,24,10,98,84,60,61,29,3]
set_option maxHeartbeats 4000000 in
theorem qp4 {F:Nat}{x1:qAE}{a2:qAF}{c3:Nat}{x4:Int}{r:qAE}(hm:qec F x1 x4=some r) :
    Pure Tryz.prog 34 [.slice a2 x1.length c3,qAG x4] [Sl (eI .i64) 1 (.slice a2 x1.length c3) x1] (qAF×Nat) (fun g=>.slice g.1 r.length g.2) (fun g=>[Ro (eI .u64) 58 1 (.slice g.1 r.length g.2) r]) (fun _=>[]):=by
 refine qk Tryz.func34 rfl Tryz.ntmps34 rfl hm (fun w=>?_)
 refine au [102,60] ?_
 refine qq (cells:=[qAG x4,.bool false]) rfl st101 rfl (by kernel_rfl) rfl ?_
 refine au [24,9] ?_
 intro g5
 refine au [58,68] ?_
 refine qc (fun ((x75,(a73,c74)):(qAE×(qAF×Nat)))=>([(6,.slice a73 x75.length c74)],[],[Ro (eI .u64) 58 1 (.slice a73 x75.length c74) x75],[],qgg F x75)) ?_ ?_
 refine au [169,1,162,29,14] ?_
 refine qi (fun (((x98,x99,x0,x2),(a96,c97)):((qAE×Int×Int×Bool)×(qAF×Nat)))=>([(5,.pointer (some ⟨g5,0,none⟩)),(6,.slice a96 x98.length c97),(12,.slice a2 x1.length c3),(13,qAG (x1.length:Int)),(14,qAG x99)],[⟨g5,101,[qAG x0,.bool x2]⟩],[Ro (eI .u64) 58 1 (.slice a96 x98.length c97) x98],[Sl (eI .i64) 1 (.slice a2 x1.length c3) x1])) (fun k (s:((qAE×Int×Int×Bool)×(qAF×Nat)))=>qbd F x1 k s.1) ((([]:qAE),0,x4,false),(none,0)) F ?_
 intro k0
 rintro ⟨⟨x98,x99,x0,x2⟩,⟨a96,c97⟩⟩
 try dsimp only
 refine qm (m':=qeC F x1 (qbd F x1 k0) x98 x99 x0 x2) rfl ?_
 refine av [140] ?_ ?_
 intro _
 refine au [91,59,26,2] ?_
 intro x3 e0 b0 o0
 refine au [143,99,1] ?_
 refine zr qiw ?_
 intro x5 e1 _
 refine qt (vs:=[.int .u64 x5.1]) (ys:=([x5.1]:qAE)) (ql .u64) (by decide) rfl Tryz.underlying60 tf58 rfl rfl rfl rfl rfl (by decide) (fun a0 c0=>qB 1 (ql .u64) rfl Tryz.underlying60 tf58 rfl rfl rfl rfl rfl (.inl ⟨0,_,rfl⟩) rfl rfl (fun x6 e2 a1 c1=>?_))
 refine au [173,4,16,1,0] ?_
 exact qh ((x6,iadd .i64 x99 1,x5.2.1,x5.2.2),(a1,c1))
 intro _
 refine au [73] ?_
 exact qa (x98,(a96,c97))
 rintro ⟨x75,⟨a73,c74⟩⟩
 try dsimp only
 refine au [60,61] ?_
 exact qj (a73,c74)
set_option maxHeartbeats 4000000 in
theorem qjM {F:Nat}{x1:List (qAE)}{a2:qAF}{c3:Nat}{s3:List (qAF×Nat)}{r:qAE}(hm:qda F x1=some r) :
    Pure Tryz.prog 19 [.agg #[.slice a2 x1.length c3]] [SlN eN59 iN59 1 (.slice a2 x1.length c3) x1 s3] (qAF×Nat) (fun g=>.slice g.1 r.length g.2) (fun g=>[Ro (eI .u8) 5 1 (.slice g.1 r.length g.2) r]) (fun _=>[]):=by
 refine qk Tryz.func19 rfl Tryz.ntmps19 rfl hm (fun w=>?_)
 refine au [133] ?_
 intro g4
 refine au [58] ?_
 refine qc (fun ((x33,(a31,c32)):(qAE×(qAF×Nat)))=>([(1,.pointer (some ⟨g4,0,none⟩)),(3,.slice a31 x33.length c32)],[⟨g4,24,[.slice a2 x1.length c3]⟩],[Ro (eI .u8) 5 1 (.slice a31 x33.length c32) x33],[SlN eN59 iN59 1 (.slice a2 x1.length c3) x1 s3],vM F x1 x33)) ?_ ?_
 refine qu mixed [] [⟨g4,24,[.slice a2 x1.length c3]⟩] [SlN eN59 iN59 1 (.slice a2 x1.length c3) x1 s3] (.cons 0 rfl .nil) (qx 0 rfl qr) 10 rfl ?_
 refine au [24,2,4,25,8,5,26,9,6,27,7,7] ?_
 refine qeM 0 2 rfl rfl (by kernel_rfl) rfl rfl ?_ ?_
 refine qjk (vs:=[.int .u8 76,.int .u8 87]) (ys:=([76,87]:qAE)) (ql .u8) (by decide) rfl Tryz.underlying27 tf5 rfl rfl rfl rfl rfl (by decide) (by decide) (fun g0=>?_)
 refine au [0,26,7] ?_
 refine qeM 1 2 rfl rfl (by kernel_rfl) rfl rfl ?_ ?_
 refine au [30,7,0,27,10,21,2] ?_
 refine qt (vs:=[.int .u8 1]) (ys:=([1]:qAE)) (ql .u8) (by decide) rfl Tryz.underlying27 tf5 rfl rfl rfl rfl rfl (by decide) (fun a0 c0=>?_)
 refine au [0,27,10,21,3] ?_
 refine qi0 0 rfl Tryz.underlying27 tf5 rfl rfl rfl rfl rfl (.inl ⟨0,_,rfl⟩) (by decide) rfl rfl (fun x0 e0 a1 c1=>?_)
 refine au [0,27,10,21,8,28,13] ?_
 rintro x2 e1 ⟨a3,c2⟩
 refine au [0,27,10,6,9,24,3] ?_
 exact qy (qa (x2,(a3,c2))) (by intro c h;cases h)
 refine qeN (m':=((app 70368744177664 ([76,87]:qAE) ([1]:qAE)).bind fun x3=>((vo F x3 (iconv .u64 (x1.length:Int))).bind fun x4=>vM F x1 x4))) (rfl) (qt (vs:=[.int .u8 1]) (ys:=([1]:qAE)) (ql .u8) (by decide) rfl Tryz.underlying27 tf5 rfl rfl rfl rfl rfl (by decide) (fun a4 c4=>?_))
 refine au [0,26,7,21,1] ?_
 refine qmF (j:=1) rfl UnF.u UnF.u rfl rfl rfl ?_
 refine au [0,27,10,21,3] ?_
 refine qi0 0 rfl Tryz.underlying27 tf5 rfl rfl rfl rfl rfl (.inl ⟨0,_,rfl⟩) (by decide) rfl rfl (fun x3 e2 a5 c5=>?_)
 refine au [0,27,10,21,8,28,13] ?_
 rintro x4 e3 ⟨a6,c6⟩
 refine au [0,27,10,6,9,24,3] ?_
 exact qy (qa (x4,(a6,c6))) (by intro c h;cases h)
 refine qeN (m':=((app 70368744177664 ([76,87]:qAE) ([1]:qAE)).bind fun x5=>((vo F x5 (iconv .u64 (x1.length:Int))).bind fun x6=>vM F x1 x6))) (rfl) (qt (vs:=[.int .u8 1]) (ys:=([1]:qAE)) (ql .u8) (by decide) rfl Tryz.underlying27 tf5 rfl rfl rfl rfl rfl (by decide) (fun a7 c7=>?_))
 refine au [0,26,7,21,0] ?_
 refine qjk (vs:=[.int .u8 76,.int .u8 87]) (ys:=([76,87]:qAE)) (ql .u8) (by decide) rfl Tryz.underlying27 tf5 rfl rfl rfl rfl rfl (by decide) (by decide) (fun g1=>?_)
 refine au [0,26,7,21,1,30,7,0,27,10,21,3] ?_
 refine qi0 0 rfl Tryz.underlying27 tf5 rfl rfl rfl rfl rfl (.inl ⟨0,_,rfl⟩) (by decide) rfl rfl (fun x5 e4 a8 c8=>?_)
 refine au [0,27,10,21,8,28,13] ?_
 rintro x6 e5 ⟨a9,c9⟩
 refine au [0,27,10,6,9,24,3] ?_
 exact qy (qa (x6,(a9,c9))) (by intro c h;cases h)
 rintro ⟨x33,⟨a31,c32⟩⟩
 try dsimp only
 refine qc (fun ((x7,(a10,c10)):(qAE×(qAF×Nat)))=>([(3,.slice a10 x7.length c10)],[],[Ro (eI .u8) 5 1 (.slice a10 x7.length c10) x7],[],qcG F x7)) ?_ ?_
 refine au [116,18,1,162] ?_
 refine qi (fun (((x8,x9),(a11,c11)):((qAE×Int)×(qAF×Nat)))=>([(3,.slice a11 x8.length c11),(18,.slice a2 x1.length c3),(19,qAG (x1.length:Int)),(20,qAG x9)],[],[Ro (eI .u8) 5 1 (.slice a11 x8.length c11) x8],[SlN eN59 iN59 1 (.slice a2 x1.length c3) x1 s3])) (fun k (s:((qAE×Int)×(qAF×Nat)))=>zb F x1 k s.1) ((x33,0),(a31,c32)) F ?_
 intro k0
 rintro ⟨⟨x8,x9⟩,⟨a11,c11⟩⟩
 try dsimp only
 refine qm (m':=jW F x1 (zb F x1 k0) x8 x9) rfl ?_
 refine av [140] ?_ ?_
 intro _
 refine au [64] ?_
 refine qc (fun ((x10,(a12,c12)):(qAE×(qAF×Nat)))=>([(3,.slice a12 x10.length c12),(18,.slice a2 x1.length c3),(19,qAG (x1.length:Int)),(20,qAG x9)],[],[Ro (eI .u8) 5 1 (.slice a12 x10.length c12) x10],[SlN eN59 iN59 1 (.slice a2 x1.length c3) x1 s3],jY F (zb F x1 k0) x9 x10)) ?_ ?_
 refine au [14,60,27,5] ?_
 intro x11 e6 g2 b0 o0
 refine au [24,14,79,121,24,11,28,13] ?_
 rintro x12 e7 ⟨a13,c13⟩
 refine au [58,69,30,8] ?_
 rintro x13 e8 ⟨a14,c14⟩
 refine au [18,1,162] ?_
 refine qi (fun (((x14,x15),(a15,c15)):((qAE×Int)×(qAF×Nat)))=>([(3,.slice a15 x14.length c15),(18,.slice a2 x1.length c3),(19,qAG (x1.length:Int)),(20,qAG x9),(32,.slice a14 x13.length c14),(33,qAG (x13.length:Int)),(34,qAG x15)],[],[Ro (eI .u8) 5 1 (.slice a15 x14.length c15) x14,Ro (eI .u64) 58 1 (.slice a14 x13.length c14) x13],[SlN eN59 iN59 1 (.slice a2 x1.length c3) x1 s3])) (fun k (s:((qAE×Int)×(qAF×Nat)))=>yi F (zb F x1 k0) x9 x13 k s.1) ((x12,0),(a13,c13)) F ?_
 intro k1
 rintro ⟨⟨x14,x15⟩,⟨a15,c15⟩⟩
 try dsimp only
 refine qm (m':=jX F (zb F x1 k0) x9 x13 (yi F (zb F x1 k0) x9 x13 k1) x14 x15) rfl ?_
 refine av [140] ?_ ?_
 intro _
 refine au [91,59,30,9] ?_
 intro x16 e9 g3 h0
 refine qaq (j:=1) (y:=x16) (ql .u64) rfl rfl tf58 rfl h0 (qF e9).2.2 (fun _=>rfl) rfl rfl ?_
 refine au [58,99,28,13] ?_
 rintro x17 e10 ⟨a16,c16⟩
 refine au [173,4,16,1,0] ?_
 exact qh ((x17,iadd .i64 x15 1),(a16,c16))
 intro _
 refine au [73,22] ?_
 exact qa (x14,(a15,c15))
 rintro ⟨x10,⟨a12,c12⟩⟩
 try dsimp only
 refine au [4,16,1,0] ?_
 exact qh ((x10,iadd .i64 x9 1),(a12,c12))
 intro _
 refine au [73] ?_
 exact qa (x8,(a11,c11))
 rintro ⟨x7,⟨a10,c10⟩⟩
 try dsimp only
 refine au [60,61] ?_
 exact qj (a10,c10)
set_option maxHeartbeats 4000000 in
theorem qng {F:Nat}{x1:Int}{x2:Int}{x3:Int}{r:Int}(hm:qcy F x1 x2 x3=some r) :
    Pure Tryz.prog 60 [.agg #[qAG x1,qAG x2,qAG x3]] [] Unit (fun _=>qAG r) (fun _=>[]) (fun _=>[]):=by
 refine qk Tryz.func60 rfl Tryz.ntmps60 rfl hm (fun w=>?_)
 refine au [133] ?_
 intro g4
 refine au [58,3,116,23,1] ?_
 refine qC 4 (decide (x1<0)) [(1,.pointer (some ⟨g4,0,none⟩)),(10,.bool ((decide (x1<0)) || (decide (7<x1))))] (fun h12=>?_) (fun h12=>?_) ?_
 refine qb (os:=_) rfl (qp (k:=6) rfl h12 ?_)
 refine au [71,174] ?_
 refine qd (d:=10) (v:=.bool ((decide (x1<0)) || (decide (7<x1)))) rfl (by rw[h12];simp only[qyg]) ?_
 exact az [67]
 refine qb (os:=_) rfl (qo (k:=6) rfl h12 ?_)
 refine au [62,80] ?_
 refine qd (d:=10) (v:=.bool ((decide (x1<0)) || (decide (7<x1)))) rfl (by rw[h12];simp only[qyd]) ?_
 exact az [67]
 refine qb (os:=_) rfl ?_
 refine au [1] ?_
 refine qC 4 ((decide (x1<0)) || (decide (7<x1))) [(1,.pointer (some ⟨g4,0,none⟩)),(15,.bool (((decide (x1<0)) || (decide (7<x1))) || (decide (x2<0))))] (fun h13=>?_) (fun h13=>?_) ?_
 refine qb (os:=_) rfl (qp (k:=11) rfl h13 ?_)
 refine au [71,174] ?_
 refine qd (d:=15) (v:=.bool (((decide (x1<0)) || (decide (7<x1))) || (decide (x2<0)))) rfl (by rw[h13];simp only[qyg]) ?_
 exact az [67]
 refine qb (os:=_) rfl (qo (k:=11) rfl h13 ?_)
 refine au [62,23,24,8] ?_
 refine qd (d:=15) (v:=.bool (((decide (x1<0)) || (decide (7<x1))) || (decide (x2<0)))) rfl (by rw[h13];simp only[qyd]) ?_
 exact az [67]
 refine qb (os:=_) rfl ?_
 refine au [1] ?_
 refine qC 4 (((decide (x1<0)) || (decide (7<x1))) || (decide (x2<0))) [(1,.pointer (some ⟨g4,0,none⟩)),(20,.bool ((((decide (x1<0)) || (decide (7<x1))) || (decide (x2<0))) || ((x2:Int) == 1)))] (fun h14=>?_) (fun h14=>?_) ?_
 refine qb (os:=_) rfl (qp (k:=16) rfl h14 ?_)
 refine au [71,174] ?_
 refine qd (d:=20) (v:=.bool ((((decide (x1<0)) || (decide (7<x1))) || (decide (x2<0))) || ((x2:Int) == 1))) rfl (by rw[h14];simp only[qyg]) ?_
 exact az [67]
 refine qb (os:=_) rfl (qo (k:=16) rfl h14 ?_)
 refine au [62,24,15,24,8] ?_
 refine qd (d:=20) (v:=.bool ((((decide (x1<0)) || (decide (7<x1))) || (decide (x2<0))) || ((x2:Int) == 1))) rfl (by rw[h14];simp only[qyd]) ?_
 exact az [67]
 refine qb (os:=_) rfl ?_
 refine au [1] ?_
 refine qC 4 ((((decide (x1<0)) || (decide (7<x1))) || (decide (x2<0))) || ((x2:Int) == 1)) [(1,.pointer (some ⟨g4,0,none⟩)),(25,.bool (((((decide (x1<0)) || (decide (7<x1))) || (decide (x2<0))) || ((x2:Int) == 1)) || (decide (300<x2))))] (fun h15=>?_) (fun h15=>?_) ?_
 refine qb (os:=_) rfl (qp (k:=21) rfl h15 ?_)
 refine au [71,174] ?_
 refine qd (d:=25) (v:=.bool (((((decide (x1<0)) || (decide (7<x1))) || (decide (x2<0))) || ((x2:Int) == 1)) || (decide (300<x2)))) rfl (by rw[h15];simp only[qyg]) ?_
 exact az [67]
 refine qb (os:=_) rfl (qo (k:=21) rfl h15 ?_)
 refine au [62,80] ?_
 refine qd (d:=25) (v:=.bool (((((decide (x1<0)) || (decide (7<x1))) || (decide (x2<0))) || ((x2:Int) == 1)) || (decide (300<x2)))) rfl (by rw[h15];simp only[qyd]) ?_
 exact az [67]
 refine qb (os:=_) rfl ?_
 refine au [1] ?_
 refine qC 4 (((((decide (x1<0)) || (decide (7<x1))) || (decide (x2<0))) || ((x2:Int) == 1)) || (decide (300<x2))) [(1,.pointer (some ⟨g4,0,none⟩)),(30,.bool ((((((decide (x1<0)) || (decide (7<x1))) || (decide (x2<0))) || ((x2:Int) == 1)) || (decide (300<x2))) || (decide (x3<1))))] (fun h16=>?_) (fun h16=>?_) ?_
 refine qb (os:=_) rfl (qp (k:=26) rfl h16 ?_)
 refine au [71,174] ?_
 refine qd (d:=30) (v:=.bool ((((((decide (x1<0)) || (decide (7<x1))) || (decide (x2<0))) || ((x2:Int) == 1)) || (decide (300<x2))) || (decide (x3<1)))) rfl (by rw[h16];simp only[qyg]) ?_
 exact az [67]
 refine qb (os:=_) rfl (qo (k:=26) rfl h16 ?_)
 refine au [62,23,24,8] ?_
 refine qd (d:=30) (v:=.bool ((((((decide (x1<0)) || (decide (7<x1))) || (decide (x2<0))) || ((x2:Int) == 1)) || (decide (300<x2))) || (decide (x3<1)))) rfl (by rw[h16];simp only[qyd]) ?_
 exact az [67]
 refine qb (os:=_) rfl ?_
 refine au [1] ?_
 refine qC 4 ((((((decide (x1<0)) || (decide (7<x1))) || (decide (x2<0))) || ((x2:Int) == 1)) || (decide (300<x2))) || (decide (x3<1))) [(35,.bool (((((((decide (x1<0)) || (decide (7<x1))) || (decide (x2<0))) || ((x2:Int) == 1)) || (decide (300<x2))) || (decide (x3<1))) || (decide (16<x3))))] (fun h17=>?_) (fun h17=>?_) ?_
 refine qb (os:=_) rfl (qp (k:=31) rfl h17 ?_)
 refine au [71,174] ?_
 refine qd (d:=35) (v:=.bool (((((((decide (x1<0)) || (decide (7<x1))) || (decide (x2<0))) || ((x2:Int) == 1)) || (decide (300<x2))) || (decide (x3<1))) || (decide (16<x3)))) rfl (by rw[h17];simp only[qyg]) ?_
 exact az [67]
 refine qb (os:=_) rfl (qo (k:=31) rfl h17 ?_)
 refine au [62,80] ?_
 refine qd (d:=35) (v:=.bool (((((((decide (x1<0)) || (decide (7<x1))) || (decide (x2<0))) || ((x2:Int) == 1)) || (decide (300<x2))) || (decide (x3<1))) || (decide (16<x3)))) rfl (by rw[h17];simp only[qyd]) ?_
 exact az [67]
 refine qb (os:=_) rfl ?_
 refine av [63] ?_ ?_
 intro _
 exact az [59,96]
 intro _
 exact az [64,59,95]
theorem qf6 {F:Nat}{x1:qAE}{a2:qAF}{c3:Nat}{r:qAE}(hm:kH F x1=some r) :
    Pure Tryz.prog 49 [.slice a2 x1.length c3] [Sl (eI .u8) 1 (.slice a2 x1.length c3) x1] (qAF×Nat) (fun g=>.slice g.1 r.length g.2) (fun g=>[Ro (eI .u8) 5 1 (.slice g.1 r.length g.2) r]) (fun _=>[]):=by
 refine qk Tryz.func49 rfl Tryz.ntmps49 rfl hm (fun w=>?_)
 refine av [126,75,32,12,57,32,13] ?_ ?_
 intro h11
 refine qpF 0 (ql .u8) (by decide) rfl h11 (fun h12=>?_)
 subst h12
 refine qm (m':=some ([]:qAE)) rfl ?_
 refine au [59,74,26,8] ?_
 exact qj (none,0)
 intro _
 refine au [64,59] ?_
 refine qt (vs:=[]) (ys:=([]:qAE)) (ql .u8) (by decide) rfl UnF.u inferInstance rfl rfl rfl rfl rfl (by decide) ?_
 intro a6 c7
 refine au [1] ?_
 refine qB 0 (ql .u8) rfl UnF.u inferInstance rfl rfl rfl rfl rfl (.inr ⟨0,rfl⟩) rfl rfl ?_
 intro x8 e8 a9 c10
 refine au [61] ?_
 exact qj (a9,c10)
theorem qp2 {F:Nat}{x1:Int}{x2:qAE}{a3:qAF}{c4:Nat}{r:(Int×qAE)}(hm:qft F x1 x2=some r) :
    PureM Tryz.prog 91 [.agg #[qAG x1,.slice a3 x2.length c4]] [] [] [Sl (eI .u8) 1 (.slice a3 x2.length c4) x2] ((qAF×Nat)×Nat) (fun g=>.pointer (some ⟨g.2,0,none⟩)) (fun g=>[⟨g.2,161,[qAG r.1,.slice g.1.1 r.2.length g.1.2]⟩]) (fun g=>[Ro (eI .u8) 5 1 (.slice g.1.1 r.2.length g.1.2) r.2]):=by
 refine zZ Tryz.func91 rfl Tryz.ntmps91 rfl hm (fun w=>?_)
 refine au [133] ?_
 intro g5
 refine au [58,3] ?_
 refine qu mixed [] [⟨g5,65,[qAG x1,.slice a3 x2.length c4]⟩] [Sl (eI .u8) 1 (.slice a3 x2.length c4) x2] (.cons 0 rfl .nil) (qx 0 rfl qr) 9 rfl ?_
 refine au [24,2,0,25,8,1,24,2,2,25,8,3,21,4,32,14] ?_
 rintro x10 e10 ⟨a11,c12⟩
 refine au [0,26,7] ?_
 refine qn 5 (.agg #[qAG x1,.slice a11 x10.length c12]) rfl rfl rfl (qcR (cells:=[qAG x1,.slice a11 x10.length c12]) st65 rfl (by kernel_rfl)) (qn 6 (.agg #[qAG x1,.slice a11 x10.length c12]) rfl rfl rfl (qcR (cells:=[qAG x1,.slice a11 x10.length c12]) st161 rfl (by kernel_rfl)) ?_)
 refine au [21,7,24,9] ?_
 intro g13
 refine au [0] ?_
 refine qW (.cons 1 rfl .nil) (qx 0 rfl qr) ?_
 refine au [6,8,24,3] ?_
 refine qy ?_ (by intro c h;cases h)
 refine au [2,12] ?_
 exact zU ((a11,c12),g13)
theorem qlx {F:Nat}{x1:Int}{x2:qAE}{a3:qAF}{c4:Nat}{x5:Int}{x6:Int}{r:Unit}(hm:qgf F x1 x2 x5 x6=some r) :
    PureM Tryz.prog 92 [.agg #[qAG x1,.slice a3 x2.length c4],qAG x5,qAG x6] [] [] [Sl (eI .u8) 1 (.slice a3 x2.length c4) x2] (Nat×Nat×Nat) (fun g=>.func (.func 103) #[] #[.pointer (some ⟨g.1,0,none⟩),.pointer (some ⟨g.2.1,0,none⟩),.pointer (some ⟨g.2.2,0,none⟩)]) (fun g=>[⟨g.1,3,[qAG x5]⟩,⟨g.2.1,3,[qAG x6]⟩,⟨g.2.2,65,[qAG x1,.slice a3 x2.length c4]⟩]) (fun _=>[]):=by
 refine zZ Tryz.func92 rfl Tryz.ntmps92 rfl hm (fun w=>?_)
 refine au [120] ?_
 intro g7
 refine au [24,9] ?_
 intro g8
 refine au [24,9] ?_
 intro g9
 refine au [58,59,30,10,61] ?_
 exact zU (g8,g9,g7)
set_option maxHeartbeats 4000000 in
theorem qiu {F:Nat}{g1:Nat}{x2:Int}{x3:qAE}{a4:qAF}{c5:Nat}{x6:Int}{r:(Int×qAE)}(hm:jy F x2 x3 x6=some r) :
    PureM Tryz.prog 93 [.pointer (some ⟨g1,0,none⟩),.int .u64 x6] [⟨g1,161,[qAG x2,.slice a4 x3.length c5]⟩] [Ro (eI .u8) 5 1 (.slice a4 x3.length c5) x3] [] (qAF×Nat) (fun _=>.tuple #[]) (fun g=>[⟨g1,161,[qAG r.1,.slice g.1 r.2.length g.2]⟩]) (fun g=>[Ro (eI .u8) 5 1 (.slice g.1 r.2.length g.2) r.2]):=by
 refine zZ Tryz.func93 rfl Tryz.ntmps93 rfl hm (fun w=>?_)
 refine au [25,0] ?_
 refine qc (fun ((x15,(a13,c14)):(qAE×(qAF×Nat)))=>([(0,.pointer (some ⟨g1,0,none⟩)),(1,.int .u64 x6)],[⟨g1,161,[qAG x2,.slice a13 x15.length c14]⟩],[Ro (eI .u8) 5 1 (.slice a13 x15.length c14) x15],[],yD F x2 x6 x15)) ?_ ?_
 refine av [60,98,62,27,11,82] ?_ ?_
 intro _
 refine au [99,98,62] ?_
 refine qt (vs:=[.int .u8 0]) (ys:=([0]:qAE)) (ql .u8) (by decide) rfl Tryz.underlying27 tf5 rfl rfl rfl rfl rfl (by decide) (fun a44 c45=>qB 1 (ql .u8) rfl Tryz.underlying27 tf5 rfl rfl rfl rfl rfl (.inl ⟨0,_,rfl⟩) rfl rfl (fun x46 e46 a47 c48=>?_))
 refine au [98,13,134] ?_
 exact qa (x46,(a47,c48))
 intro _
 refine au [10] ?_
 exact qa (x3,(a4,c5))
 rintro ⟨x15,⟨a13,c14⟩⟩
 try dsimp only
 refine au [3,27,15] ?_
 intro x30 e30 g31 h32
 replace h32:a13=some ⟨g31,0,none⟩:=h32
 have h33:=qej (k:=x15.length) (c:=c14) h32
 refine au [28,5] ?_
 intro h34
 refine au [27,15] ?_
 intro x36 e36 g37 h38
 replace h38:a13=some ⟨g37,0,none⟩:=h38
 have h39:=qej (k:=x15.length) (c:=c14) h38
 refine qu mixed [25] [⟨g1,161,[qAG x2,.slice a13 x15.length c14]⟩] [qz g31 ((iquo .i64 x2 8).toNat*1) ((eI .u8) x30),qz g37 ((iquo .i64 x2 8).toNat*1) ((eI .u8) x36)] (.cons 0 rfl .nil) (qdr 0 rfl (kQ (ql .u8) e30 h32) (qdr 0 rfl (kQ (ql .u8) e36 h38) qr)) 26 rfl ?_
 refine au [81,24,2,2,129,6,5,6,6,24,2,7,24,2,8,25,8,9] ?_
 refine qn 10 (qAG (iquo .i64 x2 8)) rfl rfl rfl (qxp rfl rfl rfl) (qf (d:=26) (v:=.slice (some ⟨g31,0,none⟩) x15.length c14) rfl (by rw[h32] <;> rfl) (qn 11 (.pointer (some ⟨g31,(iquo .i64 x2 8).toNat*1,none⟩)) rfl rfl rfl (qdj Tryz.underlying27 tf5 rfl rfl (qF e30).1 (zX e30)) (qf (d:=26) (v:=.slice a13 x15.length c14) rfl (by rw[h32] <;> rfl) (qI 12 (.int .u8 x30) [[25]] rfl rfl rfl (zi (j:=0) rfl tf5 rfl rfl (fun _=>rfl) rfl) ?_))))
 refine au [6,13] ?_
 refine qn 14 (.int .u64 (ishl .u64 x6 7)) rfl rfl rfl (qit rfl rfl rfl) ?_
 refine au [27,7,15,6,16,6,17,24,2,18,24,2,19,25,8,20] ?_
 refine qn 21 (qAG (irem x2 8)) rfl rfl rfl (qoi rfl rfl rfl) (qn 22 (.int .u8 (ishr .u8 (iconv .u8 (ishl .u64 x6 7)) (irem x2 8))) rfl rfl rfl (qxq rfl rfl h34) ?_)
 refine au [6,23] ?_
 refine qf (d:=26) (v:=.slice (some ⟨g37,0,none⟩) x15.length c14) rfl (by rw[h38] <;> rfl) (qn 24 (.pointer (some ⟨g37,(iquo .i64 x2 8).toNat*1,none⟩)) rfl rfl rfl (qdj Tryz.underlying27 tf5 rfl rfl (qF e36).1 (zX e36)) (qf (d:=26) (v:=.slice a13 x15.length c14) rfl (by rw[h38] <;> rfl) ?_))
 refine au [21,25] ?_
 refine qgW (j:=0) (y':=ior .u8 x30 (ishr .u8 (iconv .u8 (ishl .u64 x6 7)) (irem x2 8))) (ql .u8) rfl rfl rfl tf5 rfl (qej h38) (qF e36).2.1 rfl (fun x41 e41 h42=>?_)
 have h43:x41.length=x15.length:=by rw[← e41,List.length_set]
 refine qd (d:=26) (v:=.slice a13 x41.length c14) rfl h42 (qn5 (i:=0) (cs':=[qAG x2,.slice a13 x41.length c14]) rfl (by rw[h42] <;> rfl) ?_)
 refine au [0] ?_
 refine qeU 25 rfl (by kernel_rfl) (.cons 0 (by rw[h43];rfl) .nil) ?_
 refine au [24,3] ?_
 refine qy ?_ (by intro c h;cases h)
 refine au [2,88,98,62,16,98,13,134] ?_
 exact zU (a13,c14)
theorem qsg {F:Nat}{x1:Int}{x2:qAE}{a3:qAF}{c4:Nat}{x5:Int}{r:Int}(hm:qcx F x1 x2 x5=some r) :
    Pure Tryz.prog 104 [.agg #[qAG x1,.slice a3 x2.length c4],qAG x5] [Sl (eI .u8) 1 (.slice a3 x2.length c4) x2] Unit (fun _=>.int .u64 r) (fun _=>[]) (fun _=>[]):=by
 refine qk Tryz.func104 rfl Tryz.ntmps104 rfl hm (fun w=>?_)
 refine au [155] ?_
 intro g6
 refine au [58,116,1,27,12,28,6] ?_
 intro x7 e7 b8 o9
 refine au [24,14,1,27,11,24,13,26,6] ?_
 intro h10
 refine qn9 rfl rfl rfl rfl h10 ?_
 refine au [24,11,29,4,5,26,1] ?_
 intro x11 e11
 refine qd (d:=4) (v:=.int .u64 x11) rfl (by rw[e11] <;> rfl) ?_
 exact az [57,12,19]
theorem qjJ (F:Nat){σ τ:Type}{J:Rounds σ τ}{yy:σ→Int→Option (σ ⊕ τ)}{L:Nat}(hY:YieldC Tryz.prog L (fun (p:Int)=>[.int .u64 p]) J yy)(s0:σ)(gs0:J.γ)(g1:Nat)(x2:Int)(g3:Nat)(x4:Int)(g5:Nat)(x6:Int)(x7:qAE)(a8:qAF)(c9:Nat)(r:σ ⊕ τ)(hm:qe0 F yy x2 x4 x6 x7 s0=some r) :
    PureM Tryz.prog 103 ([.func (.yield L) #[] #[],.pointer (some ⟨g1,0,none⟩),.pointer (some ⟨g3,0,none⟩),.pointer (some ⟨g5,0,none⟩)]) ([⟨g1,3,[qAG x2]⟩,⟨g3,3,[qAG x4]⟩,⟨g5,65,[qAG x6,.slice a8 x7.length c9]⟩]++J.IB s0 gs0) (J.IR s0 gs0) [J.F,Sl (eI .u8) 1 (.slice a8 x7.length c9) x7] (J.G r) (fun _=>.tuple #[]) (fun g=>[⟨g1,3,[qAG x2]⟩,⟨g3,3,[qAG x4]⟩,⟨g5,65,[qAG x6,.slice a8 x7.length c9]⟩]++J.bs r g) (fun g=>J.rs r g):=by
 refine zZ Tryz.func103 rfl Tryz.ntmps103 rfl hm (fun w=>?_)
 refine au [28,0,59,24,0,58,14] ?_
 refine qfm (fun (((x22,x23),g24):((Int×σ)×J.γ))=>[(0,.func (.yield L) #[] #[]),(2,.pointer (some ⟨g3,0,none⟩)),(3,.pointer (some ⟨g5,0,none⟩)),(5,qAG x22)]) (fun (((x22,x23),g24):((Int×σ)×J.γ))=>[⟨g1,3,[qAG x2]⟩,⟨g3,3,[qAG x4]⟩,⟨g5,65,[qAG x6,.slice a8 x7.length c9]⟩]++J.IB x23 g24) (fun (((x22,x23),g24):((Int×σ)×J.γ))=>[]++J.IR x23 g24) (fun (((x22,x23),g24):((Int×σ)×J.γ))=>[Sl (eI .u8) 1 (.slice a8 x7.length c9) x7,J.F]) (fun k (s:((Int×σ)×J.γ))=>kh F yy x4 x6 x7 k s.1) ((x2,s0),gs0) F ?_ (hB:=(.cons 0 rfl (.cons 0 rfl (.cons 0 rfl (zk 0 rfl))))) (hR:=(zk 0 rfl)) (hF:=(qV 1 rfl (qV 0 rfl qb1)))
 intro k37
 rintro ⟨⟨x22,x23⟩,g24⟩
 try dsimp only
 refine qm (m':=qaG F yy x4 x6 x7 (kh F yy x4 x6 x7 k37) x22 x23) rfl ?_
 refine av [75,25,13,83] ?_ ?_
 intro _
 refine au [91,60,26,13,1,29,5] ?_
 intro x44 e44 _
 refine qmI hY x23 x44 g24 (B1:=[⟨g1,3,[qAG x2]⟩,⟨g3,3,[qAG x4]⟩,⟨g5,65,[qAG x6,.slice a8 x7.length c9]⟩]) (R1:=[]) (j:=1) rfl rfl rfl rfl rfl rfl rfl (fun x45 _ g47=>?_) (fun x46 _ g47=>?_)
 refine au [25,3,57] ?_
 refine qb2 (b:=false) rfl (fun h=>by cases h) (fun _=>?_)
 refine au [157,2,89,0] ?_
 exact qgX ((iadd .i64 x22 1,x45),g47) (hB:=(.cons 0 rfl (.cons 0 rfl (.cons 0 rfl (zk 0 rfl))))) (hR:=(zk 0 rfl)) (hF:=(qV 0 rfl (qV 1 rfl qb1)))
 refine au [25,3,57] ?_
 refine qb2 (b:=true) rfl (fun _=>?_) (fun h=>by cases h)
 refine au [12,78,9,20] ?_
 exact qhN (B0:=[⟨g1,3,[qAG x2]⟩,⟨g3,3,[qAG x4]⟩,⟨g5,65,[qAG x6,.slice a8 x7.length c9]⟩]) (x:=.inr x46) g47 (.inl rfl) (res0 rfl) (.cons 0 rfl (.cons 0 rfl (.cons 0 rfl (zk 0 rfl)))) (zk 0 rfl)
 intro _
 refine au [73] ?_
 exact qhN (B0:=[⟨g1,3,[qAG x2]⟩,⟨g3,3,[qAG x4]⟩,⟨g5,65,[qAG x6,.slice a8 x7.length c9]⟩]) (x:=.inl x23) g24 (.inr rfl) (res0 rfl) (.cons 0 rfl (.cons 0 rfl (.cons 0 rfl (zk 0 rfl)))) (zk 0 rfl)
set_option maxHeartbeats 4000000 in
theorem qoq {F:Nat}{x1:Int}{x2:qAE}{a3:qAF}{c4:Nat}{x5:Int}{x6:qAE}{a7:qAF}{c8:Nat}{r:(Int×qAE)}(hm:qat F x1 x2 x5 x6=some r) :
    PureM Tryz.prog 79 [.agg #[qAG x1,.slice a3 x2.length c4],.agg #[qAG x5,.slice a7 x6.length c8]] [] [] [Sl (eI .u8) 1 (.slice a3 x2.length c4) x2,Sl (eI .u8) 1 (.slice a7 x6.length c8) x6] (qAF×Nat) (fun g=>.agg #[qAG r.1,.slice g.1 r.2.length g.2]) (fun _=>[]) (fun g=>[Ro (eI .u8) 5 1 (.slice g.1 r.2.length g.2) r.2]):=by
 refine qpl Tryz.func79 rfl Tryz.ntmps79 rfl hm (fun w=>?_)
 refine au [155] ?_
 intro g9
 refine au [24,9] ?_
 intro g10
 refine au [24,12] ?_
 intro g11
 refine au [57,59,26,13,32,15] ?_
 rintro x12 e12 ⟨⟨a13,c14⟩,g15⟩
 refine au [24,12] ?_
 intro g16
 refine au [84,3,59,30,11,13,29,6] ?_
 refine zr qlx ?_
 rintro x37 e37 ⟨g38,g39,g40⟩
 refine au [162] ?_
 refine qmD (encs:=(fun (p:Int)=>[.int .u64 p])) (y:=(fun ((x45,x48):(Int×qAE)) (x53:Int)=>qbT F x45 x48 x53)) (lb:=[.pointer (some ⟨g38,0,none⟩),.pointer (some ⟨g39,0,none⟩),.pointer (some ⟨g40,0,none⟩)]) (fun ((x45,x48):(Int×qAE)) ((a46,c47):(qAF×Nat))=>[⟨g16,155,[.pointer (some ⟨g15,0,none⟩)]⟩,⟨g15,161,[qAG x45,.slice a46 x48.length c47]⟩,⟨g11,65,[qAG 0,.slice none 0 0]⟩,⟨g10,65,[qAG x5,.slice a7 x6.length c8]⟩,⟨g9,65,[qAG x1,.slice a3 x2.length c4]⟩]) (fun ((x45,x48):(Int×qAE)) ((a46,c47):(qAF×Nat))=>[Ro (eI .u8) 5 1 (.slice a46 x48.length c47) x48]) (fun (_:Empty) (_:Unit)=>[]) (fun (_:Empty) (_:Unit)=>[]) (fun _=>.skip) (x12.1,x12.2) (a13,c14) rfl ent103 (fun _=>rfl) rfl (.cons 0 rfl (.cons 0 rfl (.cons 0 rfl .nil))) (.cons 0 rfl (.cons 0 rfl (.cons 0 rfl (.cons 0 rfl (.cons 0 rfl .nil))))) (.cons 0 rfl .nil) (.consF 1 rfl .nil) (fun z hz _ _ _ hY=>qjJ F hY (x12.1,x12.2) (a13,c14) g38 0 g39 x5 g40 x5 x6 a7 c8 z hz) ?_ ?_ ?_
 rintro rc1 L1 D1 ⟨x45,x48⟩ ⟨a46,c47⟩ x53 z w M _
 try dsimp only
 refine qpE [(0,.agg #[qAG x1,.slice a3 x2.length c4]),(1,.agg #[qAG x5,.slice a7 x6.length c8]),(2,.pointer (some ⟨g9,0,none⟩)),(3,.pointer (some ⟨g10,0,none⟩)),(4,.pointer (some ⟨g11,0,none⟩)),(5,.pointer (some ⟨g16,0,none⟩)),(7,.agg #[qAG x1,.slice a3 x2.length c4]),(8,.pointer (some ⟨g15,0,none⟩)),(9,.agg #[qAG x5,.slice a7 x6.length c8]),(10,.pointer (some ⟨g10,0,none⟩)),(11,qAG x5),(12,.func (.func 103) #[] #[.pointer (some ⟨g38,0,none⟩),.pointer (some ⟨g39,0,none⟩),.pointer (some ⟨g40,0,none⟩)]),(13,.int .u64 x53)] (kM rfl (kM rfl (kM rfl (kM rfl (kM rfl (kM rfl (kM rfl (kM rfl (kM rfl (kM rfl (kM rfl (kM rfl (kM rfl qjc))))))))))))) ?_
 refine au [4,5,0] ?_
 refine qmJ (i:=5) rfl ?_
 refine au [14,4,24,0,1,33,0] ?_
 rintro x54 e54 ⟨a55,c56⟩
 refine au [87] ?_
 exact qjl (rc:=rc1) rfl (.cons 5 rfl .nil) rfl (a55,c56) (.cons 2 rfl (.cons 1 rfl (.cons 1 rfl (.cons 1 rfl (.cons 1 rfl (.cons 0 rfl (.cons 0 rfl .nil))))))) (.cons 0 rfl .nil)
 rintro ⟨x45,x48⟩ _ ⟨a46,c47⟩ D1
 try dsimp only
 refine au [22,2,59,29,7,98] ?_
 refine qap (i:=5) rfl rfl inferInstance rfl rfl (by simp) rfl rfl (qb4 (i:=6) rfl rfl rfl inferInstance rfl rfl rfl rfl rfl ?_)
 refine au [57,12] ?_
 exact qmK [D1] (a46,c47) (.inl rfl) rfl (.cons 0 rfl .nil) (resL (rs:=[.cell 4 65]) rfl (.cell (i:=5) rfl tf65 rfl rfl (by simp) rfl ResOk.nil) rfl) (fun h=>by subst h;rfl) (fun h=>by subst h;exact .nil) (fun h=>by subst h;exact (.cons 0 rfl .nil))
 intro t;exact t.elim
set_option maxHeartbeats 4000000 in
theorem qiz {F:Nat}{x1:Int}{r:Int}(hm:yW F x1=some r) :
    Pure Tryz.prog 136 [.int .u64 x1] [] Unit (fun _=>qAG r) (fun _=>[]) (fun _=>[]):=by
 refine qk Tryz.func136 rfl Tryz.ntmps136 rfl hm (fun w=>?_)
 refine au [126] ?_
 refine qc (fun (((x3,x4),_):((Int×Int)×Unit))=>([(0,.int .u64 x3),(2,qAG x4)],[],[],[],yE F x3 x4)) ?_ ?_
 refine av [60,26,3,63] ?_ ?_
 intro _
 refine au [60,28,4,58,4,5,0] ?_
 exact qa ((ishr .u64 x1 32,(32:Int)),())
 intro _
 refine au [10] ?_
 exact qa ((x1,(0:Int)),())
 rintro ⟨⟨x3,x4⟩,_⟩
 try dsimp only
 refine qc (fun (((x6,x7),_):((Int×Int)×Unit))=>([(0,.int .u64 x6),(2,qAG x7)],[],[],[],yF F x6 x7)) ?_ ?_
 refine av [60,26,3,63] ?_ ?_
 intro _
 refine au [60,28,4,58,89,0] ?_
 exact qa ((ishr .u64 x3 16,iadd .i64 x4 16),())
 intro _
 refine au [10] ?_
 exact qa ((x3,x4),())
 rintro ⟨⟨x6,x7⟩,_⟩
 try dsimp only
 refine qc (fun (((x9,x10),_):((Int×Int)×Unit))=>([(0,.int .u64 x9),(2,qAG x10)],[],[],[],yG F x9 x10)) ?_ ?_
 refine av [60,26,3,63] ?_ ?_
 intro _
 refine au [60,28,4,58,89,0] ?_
 exact qa ((ishr .u64 x6 8,iadd .i64 x7 8),())
 intro _
 refine au [10] ?_
 exact qa ((x6,x7),())
 rintro ⟨⟨x9,x10⟩,_⟩
 try dsimp only
 refine au [69,24,11] ?_
 refine qqI (xs:=([0,1,2,2,3,3,3,3,4,4,4,4,4,4,4,4,5,5,5,5,5,5,5,5,5,5,5,5,5,5,5,5,6,6,6,6,6,6,6,6,6,6,6,6,6,6,6,6,6,6,6,6,6,6,6,6,6,6,6,6,6,6,6,6,7,7,7,7,7,7,7,7,7,7,7,7,7,7,7,7,7,7,7,7,7,7,7,7,7,7,7,7,7,7,7,7,7,7,7,7,7,7,7,7,7,7,7,7,7,7,7,7,7,7,7,7,7,7,7,7,7,7,7,7,7,7,7,7,8,8,8,8,8,8,8,8,8,8,8,8,8,8,8,8,8,8,8,8,8,8,8,8,8,8,8,8,8,8,8,8,8,8,8,8,8,8,8,8,8,8,8,8,8,8,8,8,8,8,8,8,8,8,8,8,8,8,8,8,8,8,8,8,8,8,8,8,8,8,8,8,8,8,8,8,8,8,8,8,8,8,8,8,8,8,8,8,8,8,8,8,8,8,8,8,8,8,8,8,8,8,8,8,8,8,8,8,8,8,8,8,8,8,8,8,8,8,8,8,8,8,8,8,8,8,8,8]:qAE)) rfl UnF.u rfl rfl (by kernel_rfl) rfl ?_
 intro x11 e11
 exact az [24,11,16,95]
theorem qm9 {F:Nat}{x1:Int}{r:Int}(hm:qfa F x1=some r) :
    Pure Tryz.prog 114 [.int .u64 x1] [] Unit (fun _=>qAG r) (fun _=>[]) (fun _=>[]):=by
 refine qk Tryz.func114 rfl Tryz.ntmps114 rfl hm (fun w=>?_)
 refine au [126,60,16,30,12] ?_
 intro x2 e2 _
 exact az [24,13,95]
theorem qg4 {F:Nat}{g1:Nat}{x2:Int}{x3:qAE}{a4:qAF}{c5:Nat}{x6:Int}{x7:Int}{r:(Int×qAE)}(hm:jz F x2 x3 x6 x7=some r) :
    PureM Tryz.prog 137 [.pointer (some ⟨g1,0,none⟩),.int .u64 x6,qAG x7] [⟨g1,161,[qAG x2,.slice a4 x3.length c5]⟩] [Ro (eI .u8) 5 1 (.slice a4 x3.length c5) x3] [] (qAF×Nat) (fun _=>.tuple #[]) (fun g=>[⟨g1,161,[qAG r.1,.slice g.1 r.2.length g.2]⟩]) (fun g=>[Ro (eI .u8) 5 1 (.slice g.1 r.2.length g.2) r.2]):=by
 refine zZ Tryz.func137 rfl Tryz.ntmps137 rfl hm (fun w=>?_)
 refine au [25,15,60,24,13,58,14] ?_
 refine qi (fun (((x18,x19,x22),(a20,c21)):((Int×Int×qAE)×(qAF×Nat)))=>([(0,.pointer (some ⟨g1,0,none⟩)),(1,.int .u64 x6),(6,qAG x18)],[⟨g1,161,[qAG x19,.slice a20 x22.length c21]⟩],[Ro (eI .u8) 5 1 (.slice a20 x22.length c21) x22],[])) (fun k (s:((Int×Int×qAE)×(qAF×Nat)))=>kd F x6 k s.1) ((isub .i64 x7 1,x2,x3),(a4,c5)) F ?_
 intro k33
 rintro ⟨⟨x18,x19,x22⟩,⟨a20,c21⟩⟩
 try dsimp only
 refine qm (m':=kb F x6 (kd F x6 k33) x18 x19 x22) rfl ?_
 refine av [75,26,3,63] ?_ ?_
 intro _
 refine au [91,99,1,26,6] ?_
 intro h39
 refine qn9 rfl rfl rfl rfl h39 ?_
 refine au [29,4,33,0] ?_
 rintro x40 e40 ⟨a41,c42⟩
 refine au [87,2,88,24,13,5,0] ?_
 exact qh ((isub .i64 x18 1,x40.1,x40.2),(a41,c42))
 intro _
 refine au [73] ?_
 exact zU (a20,c21)
theorem qp1 {F:Nat}{x1:Int}{x2:qAE}{a3:qAF}{c4:Nat}{x5:Int}{x6:Int}{r:(Int×qAE)}(hm:qbS F x1 x2 x5 x6=some r) :
    Pure Tryz.prog 115 [.agg #[qAG x1,.slice a3 x2.length c4],.int .u64 x5,qAG x6] [Sl (eI .u8) 1 (.slice a3 x2.length c4) x2] (qAF×Nat) (fun g=>.agg #[qAG r.1,.slice g.1 r.2.length g.2]) (fun g=>[Ro (eI .u8) 5 1 (.slice g.1 r.2.length g.2) r.2]) (fun _=>[]):=by
 refine qk Tryz.func115 rfl Tryz.ntmps115 rfl hm (fun w=>?_)
 refine au [120] ?_
 intro g7
 refine au [24,12] ?_
 intro g8
 refine au [57,119,32,15] ?_
 rintro x9 e9 ⟨⟨a10,c11⟩,g12⟩
 refine au [58,69,1] ?_
 refine zr qg4 ?_
 rintro x13 e13 ⟨a14,c15⟩
 refine au [57,60,98,25,4,25,7,57,12] ?_
 exact qv (a14,c15) (resL (rs:=[.cell 6 65]) rfl (.cell (i:=1) rfl tf65 rfl rfl (by simp) rfl ResOk.nil) rfl) (fun h=>by subst h;exact (.cons 0 rfl .nil))
theorem qoH {F:Nat}{x1:Int}{r:(Int×qAE)}(hm:qeR F x1=some r) :
    Pure Tryz.prog 116 [.int .u64 x1] [] (qAF×Nat) (fun g=>.agg #[qAG r.1,.slice g.1 r.2.length g.2]) (fun g=>[Ro (eI .u8) 5 1 (.slice g.1 r.2.length g.2) r.2]) (fun _=>[]):=by
 refine qk Tryz.func116 rfl Tryz.ntmps116 rfl hm (fun w=>?_)
 refine au [25,5,128] ?_
 intro g2
 refine au [57,60,24,11,1,16,27,12] ?_
 refine qu0 (ql .u8) rfl UnF.u inferInstance rfl rfl rfl rfl rfl rfl rfl ?_
 intro x3 e3 a4 c5
 refine qq (cells:=[qAG (iconv .i64 x1),.slice a4 x3.length c5]) rfl st65 rfl (by kernel_rfl) rfl ?_
 refine au [29,15] ?_
 rintro x6 e6 ⟨a7,c8⟩
 refine au [84,12] ?_
 exact qv (a7,c8) (resL (rs:=[.cell 2 65]) rfl (.cell (i:=0) rfl tf65 rfl rfl (by simp) rfl ResOk.nil) rfl) (fun h=>by subst h;exact (.cons 0 rfl .nil))
theorem qos {F:Nat}{x1:Int}{x2:Int}{r:Int}(hm:qfR F x1 x2=some r) :
    Pure Tryz.prog 117 [.int .u64 x1,qAG x2] [] Unit (fun _=>.int .u64 r) (fun _=>[]) (fun _=>[]):=by
 refine qk Tryz.func117 rfl Tryz.ntmps117 rfl hm (fun w=>?_)
 refine au [102,69,26,6] ?_
 intro h3
 refine qcB rfl rfl rfl rfl h3 ?_
 refine au [24,13,29,4,5,26,1] ?_
 intro x4 e4
 refine qd (d:=4) (v:=.int .u64 x4) rfl (by rw[e4] <;> rfl) ?_
 exact az [57,12,19]
theorem qi5 {F:Nat}{x1:Int}{r:(Int×qAE)}(hm:qaf F x1=some r) :
    Pure Tryz.prog 101 [.int .u64 x1] [] (qAF×Nat) (fun g=>.agg #[qAG r.1,.slice g.1 r.2.length g.2]) (fun g=>[Ro (eI .u8) 5 1 (.slice g.1 r.2.length g.2) r.2]) (fun _=>[]):=by
 refine qk Tryz.func101 rfl Tryz.ntmps101 rfl hm (fun w=>?_)
 refine au [25,5,128] ?_
 intro g2
 refine au [57,60] ?_
 refine qg qm9 ?_
 intro x3 e3 _
 refine au [58,60,24,11,33,1] ?_
 rintro x4 e4 ⟨a5,c6⟩
 refine au [1,16,1] ?_
 refine qg qos ?_
 intro x7 e7 _
 refine au [1,29,15] ?_
 rintro x8 e8 ⟨a9,c10⟩
 refine au [84,12] ?_
 exact qv (a9,c10) (resL (rs:=[.cell 2 65]) rfl (.cell (i:=0) rfl tf65 rfl rfl (by simp) rfl ResOk.nil) rfl) (fun h=>by subst h;exact (.cons 0 rfl .nil))
theorem qov {F:Nat}{x1:Int}{r:Bool}(hm:qdu F x1=some r) :
    Pure Tryz.prog 80 [qAG x1] [] Unit (fun _=>.bool r) (fun _=>[]) (fun _=>[]):=by
 refine qk Tryz.func80 rfl Tryz.ntmps80 rfl hm (fun w=>?_)
 refine au [126,60,26,3,1] ?_
 refine qC 3 (decide (0≤x1)) [(8,.bool ((decide (0≤x1)) && (decide (x1≤1048576))))] (fun h2=>?_) (fun h2=>?_) ?_
 refine qb (os:=_) rfl (qp (k:=5) rfl h2 ?_)
 refine au [1,27,6,24,7] ?_
 refine qd (d:=8) (v:=.bool ((decide (0≤x1)) && (decide (x1≤1048576)))) rfl (by rw[h2];simp only[Bool.true_and]) ?_
 exact az [67]
 refine qb (os:=_) rfl (qo (k:=5) rfl h2 ?_)
 refine au [71,24,8] ?_
 refine qd (d:=8) (v:=.bool ((decide (0≤x1)) && (decide (x1≤1048576)))) rfl (by rw[h2];simp only[Bool.false_and]) ?_
 exact az [67]
 refine qb (os:=_) rfl ?_
 exact az [95]
set_option maxHeartbeats 4000000 in
theorem qna {F:Nat}{x1:qAE}{a2:qAF}{c3:Nat}{r:Int}(hm:jB F x1=some r) :
    Pure Tryz.prog 110 [.slice a2 x1.length c3] [Sl (eI .i64) 1 (.slice a2 x1.length c3) x1] Unit (fun _=>qAG r) (fun _=>[]) (fun _=>[]):=by
 refine qk Tryz.func110 rfl Tryz.ntmps110 rfl hm (fun w=>?_)
 refine av [126,75,18,77] ?_ ?_
 intro _
 exact az [59,96]
 intro _
 refine au [64,68] ?_
 refine qc (fun ((_,_):(Unit×Unit))=>([],[],[],[],qg0 F)) ?_ ?_
 refine au [169,1,162] ?_
 refine qi (fun (((x88,x89),_):((Int×Int)×Unit))=>([(3,qAG x88),(9,.slice a2 x1.length c3),(10,qAG (x1.length:Int)),(11,qAG x89)],[],[],[Sl (eI .i64) 1 (.slice a2 x1.length c3) x1])) (fun k (s:((Int×Int)×Unit))=>jf F x1 k s.1) ((-1,0),()) F ?_
 intro k0
 rintro ⟨⟨x88,x89⟩,_⟩
 try dsimp only
 refine qm (m':=qc8 F x1 (jf F x1 k0) x88 x89) rfl ?_
 refine av [140] ?_ ?_
 intro _
 refine au [91,59,26,2] ?_
 intro x0 e0 b0 o0
 refine au [143,3,14,60,30,13] ?_
 intro x2 e1 _
 refine av [25,3,58,8] ?_ ?_
 intro _
 exact az [59,61,78,78,9,160]
 intro _
 refine av [69,27,6,58,8] ?_ ?_
 intro _
 exact az [59,61,78,78,9,160]
 intro _
 refine au [157,2,88,173,4,16,1,0] ?_
 exact qh ((x0,iadd .i64 x89 1),())
 intro _
 exact az [149]
 rintro ⟨_,_⟩
 try dsimp only
 exact az [59,95]
set_option maxHeartbeats 4000000 in
theorem qiA {F:Nat}{g1:Nat}{x2:Int}{x3:qAE}{a4:qAF}{c5:Nat}{x6:Bool}{x7:Int}{x8:qAE}{a9:qAF}{c10:Nat}{r:(Int×qAE×Bool)}(hm:yZ F x2 x3 x6 x7 x8=some r) :
    PureM Tryz.prog 135 [.pointer (some ⟨g1,0,none⟩),.agg #[qAG x7,.slice a9 x8.length c10]] [⟨g1,183,[qAG x2,.slice a4 x3.length c5,.bool x6]⟩] [Ro (eI .u8) 5 1 (.slice a4 x3.length c5) x3] [Sl (eI .u8) 1 (.slice a9 x8.length c10) x8] (qAF×Nat) (fun _=>.tuple #[]) (fun g=>[⟨g1,183,[qAG r.1,.slice g.1 r.2.1.length g.2,.bool r.2.2]⟩]) (fun g=>[Ro (eI .u8) 5 1 (.slice g.1 r.2.1.length g.2) r.2.1]):=by
 refine zZ Tryz.func135 rfl Tryz.ntmps135 rfl hm (fun w=>?_)
 refine au [155] ?_
 intro g11
 refine au [57] ?_
 refine qc (fun ((x13,_):(Bool×Unit))=>([(0,.pointer (some ⟨g1,0,none⟩)),(3,.pointer (some ⟨g11,0,none⟩))],[⟨g11,65,[qAG x7,.slice a9 x8.length c10]⟩,⟨g1,183,[qAG x2,.slice a4 x3.length c5,.bool x13]⟩],[Ro (eI .u8) 5 1 (.slice a4 x3.length c5) x3],[Sl (eI .u8) 1 (.slice a9 x8.length c10) x8],yH F x2 x3 x7 x8 x13)) ?_ ?_
 refine av [26,15] ?_ ?_
 intro h18
 refine qu mixed [18] [⟨g11,65,[qAG x7,.slice a9 x8.length c10]⟩] [Sl (eI .u8) 1 (.slice a9 x8.length c10) x8,(BlkD.is ⟨g1,183,[qAG x2,.slice a4 x3.length c5,.bool x6]⟩)] (.cons 0 rfl .nil) (qx 0 rfl (qjO 1 rfl qr)) 19 rfl ?_
 refine au [113,24,2,3] ?_
 refine qI 4 (.bool x6) [[18]] rfl rfl rfl (qa7 (j:=1) rfl tf4 rfl rfl (fun _=>rfl) rfl) ?_
 refine au [6,5] ?_
 refine qf (d:=9) (v:=.bool true) rfl (by rw[h18] <;> rfl) ?_
 refine au [11,6,11,7,141,112,156,6,15,6,16,24,2,17,21,18,25,7,0,33,2,24,3] ?_
 exact qy (qa (true,())) (by intro c h;cases h)
 intro h18
 refine qu mixed [18] [⟨g11,65,[qAG x7,.slice a9 x8.length c10]⟩] [Sl (eI .u8) 1 (.slice a9 x8.length c10) x8,(BlkD.is ⟨g1,183,[qAG x2,.slice a4 x3.length c5,.bool x6]⟩)] (.cons 0 rfl .nil) (qx 0 rfl (qjO 1 rfl qr)) 19 rfl ?_
 refine au [113,24,2,3] ?_
 refine qI 4 (.bool x6) [[18]] rfl rfl rfl (qa7 (j:=1) rfl tf4 rfl rfl (fun _=>rfl) rfl) ?_
 refine au [6,5] ?_
 refine qf (d:=9) (v:=.bool false) rfl (by rw[h18] <;> rfl) ?_
 refine au [150,24,2,8,24,2,9] ?_
 refine qI 10 (qAG x2) [[18]] rfl rfl rfl (qa7 (j:=1) rfl tf3 rfl rfl (fun _=>rfl) rfl) ?_
 refine au [24,2,11,25,8,12,6,13,6,14,6,15,6,16,24,2,17,21,18,25,7,0,33,2,24,3] ?_
 exact qy (qa ((decide (8192<(iadd .i64 x2 x7))),())) (by intro c h;cases h)
 rintro ⟨x13,_⟩
 try dsimp only
 refine av [60,25,6,93,101] ?_ ?_
 intro _
 refine qu mixed [9] [⟨g11,65,[qAG x7,.slice a9 x8.length c10]⟩] [Sl (eI .u8) 1 (.slice a9 x8.length c10) x8,(BlkD.is ⟨g1,183,[qAG x2,.slice a4 x3.length c5,.bool x13]⟩)] (.cons 0 rfl .nil) (qx 0 rfl (qjO 1 rfl qr)) 10 rfl ?_
 refine au [113,24,2,3] ?_
 refine qI 4 (.agg #[qAG x2,.slice a4 x3.length c5]) [[9]] rfl rfl rfl (qa7 (j:=1) rfl tf65 rfl rfl (by simp) rfl) (qK 5 (.agg #[qAG x7,.slice a9 x8.length c10]) rfl rfl rfl (qH (i:=0) rfl tf65 rfl rfl (by simp) rfl) ?_)
 refine au [21,6,30,0] ?_
 rintro x14 e14 ⟨a15,c16⟩
 refine au [0] ?_
 refine qW (.cons 0 rfl .nil) (qx 0 rfl (qjO 1 rfl qr)) ?_
 refine au [6,7,24,2,8,21,9,25,7,0] ?_
 refine qeU 9 rfl (by kernel_rfl) (.cons 0 rfl .nil) ?_
 refine au [24,3] ?_
 exact qy (zU (a15,c16)) (by intro c h;cases h)
 intro _
 refine au [10] ?_
 exact zU (a4,c5)
theorem qhV {F:Nat}{g1:Nat}{x2:Int}{x3:qAE}{a4:qAF}{c5:Nat}{x6:Bool}{x7:Int}{r:(Int×qAE×Bool)}(hm:zd F x2 x3 x6 x7=some r) :
    PureM Tryz.prog 129 [.pointer (some ⟨g1,0,none⟩),qAG x7] [⟨g1,183,[qAG x2,.slice a4 x3.length c5,.bool x6]⟩] [Ro (eI .u8) 5 1 (.slice a4 x3.length c5) x3] [] (qAF×Nat) (fun _=>.tuple #[]) (fun g=>[⟨g1,183,[qAG r.1,.slice g.1 r.2.1.length g.2,.bool r.2.2]⟩]) (fun g=>[Ro (eI .u8) 5 1 (.slice g.1 r.2.1.length g.2) r.2.1]):=by
 refine zZ Tryz.func129 rfl Tryz.ntmps129 rfl hm (fun w=>?_)
 refine au [25,0,99,24,11,33,3] ?_
 rintro x8 e8 ⟨a9,c10⟩
 refine au [33,4] ?_
 rintro x11 e11 ⟨a12,c13⟩
 refine au [0] ?_
 exact zU (a12,c13)
theorem qjK {F:Nat}{x1:Int}{r:Bool}(hm:qc7 F x1=some r) :
    Pure Tryz.prog 174 [qAG x1] [] Unit (fun _=>.bool r) (fun _=>[]) (fun _=>[]):=by
 refine qk Tryz.func174 rfl Tryz.ntmps174 rfl hm (fun w=>?_)
 exact az [126,69,25,1,95]
set_option maxHeartbeats 4000000 in
theorem qj7 {F:Nat}{x1:Int}{x2:Int}{r:Bool}(hm:qdK F x1 x2=some r) :
    Pure Tryz.prog 160 [qAG x1,qAG x2] [] Unit (fun _=>.bool r) (fun _=>[]) (fun _=>[]):=by
 refine qk Tryz.func160 rfl Tryz.ntmps160 rfl hm (fun w=>?_)
 refine au [102,60,33,5] ?_
 intro x3 e3 _
 refine au [1] ?_
 refine qU 4 (fun ((x6,_):(Bool×Unit))=>([(0,qAG x1),(1,qAG x2),(11,.bool x6)],[],[],[],qbu F x1 x2 x6)) ?_ ?_
 refine qb (os:=_) rfl ?_
 refine av [25,10] ?_ ?_
 intro h4
 refine qp (k:=7) rfl h4 ?_
 refine au [1,33,5] ?_
 intro x8 e8 _
 refine au [25,3,97] ?_
 exact qa ((!x8),())
 intro h4
 refine qo (k:=7) rfl h4 ?_
 refine au [71,7,117] ?_
 exact qa (false,())
 rintro ⟨x6,_⟩
 try dsimp only
 refine qb (os:=_) rfl ?_
 refine au [1] ?_
 refine qC 4 x6 [(16,.bool (x6 || (decide (x1<x2))))] (fun h7=>?_) (fun h7=>?_) ?_
 refine qb (os:=_) rfl (qp (k:=12) rfl h7 ?_)
 refine au [71,174] ?_
 refine qd (d:=16) (v:=.bool (x6 || (decide (x1<x2)))) rfl (by rw[h7];simp only[qyg]) ?_
 exact az [67]
 refine qb (os:=_) rfl (qo (k:=12) rfl h7 ?_)
 refine au [1,1,23,24,8] ?_
 refine qd (d:=16) (v:=.bool (x6 || (decide (x1<x2)))) rfl (by rw[h7];simp only[qyd]) ?_
 exact az [67]
 refine qb (os:=_) rfl ?_
 exact az [95]
theorem qia {F:Nat}{x1:Int}{r:Bool}(hm:qaN F x1=some r) :
    Pure Tryz.prog 164 [qAG x1] [] Unit (fun _=>.bool r) (fun _=>[]) (fun _=>[]):=by
 refine qk Tryz.func164 rfl Tryz.ntmps164 rfl hm (fun w=>?_)
 exact az [126,69,25,1,95]
set_option maxHeartbeats 4000000 in
theorem qeO {F:Nat}{x1:qAE}{a2:qAF}{c3:Nat}{x4:Int}{r:(Int×Bool)}(hm:zP F x1 x4=some r) :
    Pure Tryz.prog 147 [.slice a2 x1.length c3,qAG x4] [Sl (eI .i64) 1 (.slice a2 x1.length c3) x1] Unit (fun _=>.tuple #[qAG r.1,.bool r.2]) (fun _=>[]) (fun _=>[]):=by
 refine qk Tryz.func147 rfl Tryz.ntmps147 rfl hm (fun w=>?_)
 refine au [25,0,59,79,169,58,60,79] ?_
 refine qc (fun ((x32,_):(Int×Unit))=>([(0,.slice a2 x1.length c3),(1,qAG x4),(6,qAG (x1.length:Int)),(7,qAG x32)],[],[],[Sl (eI .i64) 1 (.slice a2 x1.length c3) x1],yc F x1 x4 x32)) ?_ ?_
 refine au [14] ?_
 refine qi (fun (((x85,x86),_):((Int×Int)×Unit))=>([(0,.slice a2 x1.length c3),(1,qAG x4),(6,qAG (x1.length:Int)),(7,qAG x85),(8,qAG x86)],[],[],[Sl (eI .i64) 1 (.slice a2 x1.length c3) x1])) (fun k (s:((Int×Int)×Unit))=>qZ F x1 x4 k s.1) ((0,(x1.length:Int)),()) F ?_
 intro k95
 rintro ⟨⟨x85,x86⟩,_⟩
 try dsimp only
 refine qm (m':=zT F x1 x4 (qZ F x1 x4 k95) x85 x86) rfl ?_
 refine av [3,69,83] ?_ ?_
 intro _
 refine au [64,14,69,16,24,11,28,4,24,11,5,26,1] ?_
 intro x97 e97
 refine qd (d:=9) (v:=qAG x97) rfl (by rw[e97] <;> rfl) ?_
 refine au [57,69,26,2] ?_
 intro x98 e98 b99 o0
 refine au [24,14,1] ?_
 refine qg qj7 ?_
 intro x0 e0 _
 refine av [63] ?_ ?_
 intro _
 refine au [89,87] ?_
 exact qh ((iadd .i64 x97 1,x86),())
 intro _
 refine au [88,172] ?_
 exact qh ((x85,x97),())
 intro _
 refine au [73] ?_
 exact qa (x85,())
 rintro ⟨x32,_⟩
 try dsimp only
 refine au [69,1,23,1] ?_
 refine qU 18 (fun ((x55,_):(Bool×Unit))=>([(31,qAG x32),(53,.bool x55)],[],[],[],yd F x32 x55)) ?_ ?_
 refine qb (os:=_) rfl ?_
 refine av [25,10] ?_ ?_
 intro h33
 refine qp (k:=35) rfl h33 ?_
 refine au [1,1,26,2] ?_
 intro x56 e56 b57 o58
 refine au [24,14,1,144] ?_
 refine qU 10 (fun ((x68,_):(Bool×Unit))=>([(31,qAG x32),(35,.bool true),(52,.bool x68)],[],[],[],ye F x32 x68)) ?_ ?_
 refine qb (os:=_) rfl ?_
 refine av [25,10] ?_ ?_
 intro h59
 refine qp (k:=42) rfl h59 ?_
 refine au [76,76,7,97] ?_
 exact qa (true,())
 intro h59
 refine qo (k:=42) rfl h59 ?_
 refine au [1,1,27,8] ?_
 intro x69 e69 b70 o71
 refine au [24,14,33,6] ?_
 intro x72 e72 _
 refine au [1] ?_
 refine qU 3 (fun ((x75,_):(Bool×Unit))=>([(31,qAG x32),(35,.bool true),(42,.bool false),(51,.bool x75)],[],[],[],yf F x32 x75)) ?_ ?_
 refine qb (os:=_) rfl ?_
 refine av [25,10] ?_ ?_
 intro h73
 refine qp (k:=48) rfl h73 ?_
 refine au [1,33,6] ?_
 intro x76 e76 _
 refine au [97] ?_
 exact qa (x76,())
 intro h73
 refine qo (k:=48) rfl h73 ?_
 refine au [71,117] ?_
 exact qa (false,())
 rintro ⟨x75,_⟩
 try dsimp only
 refine qb (os:=_) rfl ?_
 refine au [117] ?_
 exact qa (x75,())
 rintro ⟨x68,_⟩
 try dsimp only
 refine qb (os:=_) rfl ?_
 refine au [97] ?_
 exact qa (x68,())
 intro h33
 refine qo (k:=35) rfl h33 ?_
 refine au [76,76,76,76,7,117] ?_
 exact qa (false,())
 rintro ⟨x55,_⟩
 try dsimp only
 refine qb (os:=_) rfl ?_
 exact az [5,95]
set_option maxHeartbeats 4000000 in
theorem qh9 {F:Nat}{g1:Nat}{x2:qAE}{a3:qAF}{c4:Nat}{x5:Bool}{x6:Int}{x7:Bool}{r:(qAE×Bool×Int)}(hm:qaM F x2 x5 x6 x7=some r) :
    PureM Tryz.prog 148 [.pointer (some ⟨g1,0,none⟩),.bool x7] [⟨g1,214,[.slice a3 x2.length c4,.bool x5,qAG x6]⟩] [Ro (eI .i64) 3 1 (.slice a3 x2.length c4) x2] [] (qAF×Nat) (fun _=>.tuple #[]) (fun g=>[⟨g1,214,[.slice g.1 r.1.length g.2,.bool r.2.1,qAG r.2.2]⟩]) (fun g=>[Ro (eI .i64) 3 1 (.slice g.1 r.1.length g.2) r.1]):=by
 refine zZ Tryz.func148 rfl Tryz.ntmps148 rfl hm (fun w=>?_)
 refine au [25,0] ?_
 refine qc (fun (((x21,x22,x23),(a19,c20)):((qAE×Bool×Int)×(qAF×Nat)))=>([(0,.pointer (some ⟨g1,0,none⟩))],[⟨g1,214,[.slice a19 x21.length c20,.bool x22,qAG x23]⟩],[Ro (eI .i64) 3 1 (.slice a19 x21.length c20) x21],[],vS F x21 x22 x23)) ?_ ?_
 refine av [69,125,33,7,63] ?_ ?_
 intro _
 refine au [3] ?_
 refine qu mixed [13] [] [(BlkD.is ⟨g1,214,[.slice a3 x2.length c4,.bool x5,qAG x6]⟩)] .nil (qjO 0 rfl qr) 14 rfl ?_
 refine au [113,24,2,3] ?_
 refine qI 4 (.slice a3 x2.length c4) [[13]] rfl rfl rfl (qa7 (j:=0) rfl tf59 rfl rfl (fun _=>rfl) rfl) ?_
 refine au [6,5,6,6,24,2,7] ?_
 refine qI 8 (qAG x6) [[13]] rfl rfl rfl (qa7 (j:=0) rfl tf3 rfl rfl (fun _=>rfl) rfl) ?_
 refine au [21,9] ?_
 refine qt (vs:=[qAG x6]) (ys:=([x6]:qAE)) (ql .i64) (by decide) rfl Tryz.underlying59 tf3 rfl rfl rfl rfl rfl (by decide) (fun a29 c30=>?_)
 refine au [0,30,14,21,10] ?_
 refine qB 1 (ql .i64) rfl Tryz.underlying59 tf3 rfl rfl rfl rfl rfl (.inl ⟨0,_,rfl⟩) rfl rfl (fun x31 e31 a32 c33=>?_)
 refine au [0,30,14,6,11,24,2,12,21,13,134] ?_
 refine qeU 13 rfl (by kernel_rfl) .nil ?_
 refine au [24,3] ?_
 refine qy ?_ (by intro c h;cases h)
 refine au [2,99,1,98,24,10,98,134] ?_
 exact qa ((x31,x7,(0:Int)),(a32,c33))
 intro _
 refine au [10] ?_
 exact qa ((x2,x5,x6),(a3,c4))
 rintro ⟨⟨x21,x22,x23⟩,⟨a19,c20⟩⟩
 try dsimp only
 refine au [88,125,16,98,134] ?_
 exact zU (a19,c20)
end Go.Proofs.YtlioijpkhffbnaaGreat
