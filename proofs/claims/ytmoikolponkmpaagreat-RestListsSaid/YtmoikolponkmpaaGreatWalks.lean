/- Each Go function of this seat computes what its model says. -/
import Derived.Test.YtmoikolponkmpaaGreatRows
import Derived.Test.YtmoikolponkmpaaGreatModels
import Derived.Test.YtmoikolponkmpaaGreatShelf
open Bool renaming false_or→qv2, true_or→qv4
open List renaming mem_singleton→qwv
namespace Go.Proofs.YtmoikolponkmpaaGreat
open Go SX
def eN22 (p:qyo×(qyp×Nat)):List Value:=[.slice p.2.1 p.1.length p.2.2]
def iN22 (p:qyo×(qyp×Nat)):List (World→Prop):=[Sl (eI .i64) 1 (.slice p.2.1 p.1.length p.2.2) p.1]
theorem zX:EncOk eN22 1:=⟨fun _=>rfl,fun _=>rfl⟩
def rN22 (p:qyo×(qyp×Nat)):List RowF:=[FoR (eI .i64) 3 1 (.slice p.2.1 p.1.length p.2.2) p.1]
theorem qfv:∀ p,iN22 p=(rN22 p).map RowF.cells:=fun _=>rfl
theorem qvy:∀ f∈rN22 (([]:qyo),((none,0):qyp×Nat)),f.v=.slice none 0 0∧f.n=0∧f.cs=[]:=by simp[rN22,FoR]
def eN25 (p:(Int×qyo)×(qyp×Nat)):List Value:=[qyq p.1.1,.slice p.2.1 p.1.2.length p.2.2]
def iN25 (p:(Int×qyo)×(qyp×Nat)):List (World→Prop):=[Sl (eI .u8) 1 (.slice p.2.1 p.1.2.length p.2.2) p.1.2]
theorem qoj:EncOk eN25 2:=⟨fun _=>rfl,fun _=>rfl⟩
def rN25 (p:(Int×qyo)×(qyp×Nat)):List RowF:=[FoR (eI .u8) 5 1 (.slice p.2.1 p.1.2.length p.2.2) p.1.2]
theorem qvG:∀ p,iN25 p=(rN25 p).map RowF.cells:=fun _=>rfl
theorem qvz:∀ f∈rN25 (((0:Int),([]:qyo)),((none,0):qyp×Nat)),f.v=.slice none 0 0∧f.n=0∧f.cs=[]:=by simp[rN25,FoR]
def eS154 (p:(Int×Int)):List Value:=[qyq p.1,qyq p.2]
theorem qbn:EncOk eS154 2:=⟨fun _=>rfl,fun _=>rfl⟩
def rN22p (p:qyo×(qyp×Nat)):List RowF:=[FoR (eI .i64) 3 1 (.slice p.2.1 (p.1++([77]:qyo)).length p.2.2) (p.1++([77]:qyo))]
def iN22p (p:qyo×(qyp×Nat)):List (World→Prop):=[Sl (eI .i64) 1 (.slice p.2.1 (p.1++([77]:qyo)).length p.2.2) (p.1++([77]:qyo))]
theorem qry:∀ p,iN22p p=(rN22p p).map RowF.cells:=fun _=>rfl
theorem qiC {v:Value}{xs:List (qyo)}{gs:List (qyp×Nat)}:∀ w:World,(RoN eN22 rN22p 22 1 v xs gs []).owns w→SlN eN22 iN22 1 v xs gs w :=
  fun w h=>qtx (fun _ _ hp _ hφ=>qwv.1 hφ▸qg1 (qp .i64) (hp _ (qwv.2 rfl))) (zW qry w h)
instance tf3:TyF Tryz.prog 3 false (qyq 0) 1 8:=.of (by kernel_rfl) (by kernel_rfl)
instance tf4:TyF Tryz.prog 4 false (.bool false) 1 1:=.of (by kernel_rfl) (by kernel_rfl)
instance tf5:TyF Tryz.prog 5 false (.int .u8 0) 1 1:=.of (by kernel_rfl) (by kernel_rfl)
instance tf22:TyF Tryz.prog 22 false (.slice none 0 0) 1 24:=.of (by kernel_rfl) (by kernel_rfl)
instance tf23:TyF Tryz.prog 23 false (.slice none 0 0) 1 24:=.of (by kernel_rfl) (by kernel_rfl)
instance tf25:TyF Tryz.prog 25 true (.agg #[qyq 0,.slice none 0 0]) 2 32:=.of (by kernel_rfl) (by kernel_rfl)
instance tf27:TyF Tryz.prog 27 true (.agg #[qyq 0,qyq 0,qyq 0]) 3 24:=.of (by kernel_rfl) (by kernel_rfl)
instance tf28:TyF Tryz.prog 28 false (.slice none 0 0) 1 24:=.of (by kernel_rfl) (by kernel_rfl)
instance tf30:TyF Tryz.prog 30 true (.agg #[.slice none 0 0]) 1 24:=.of (by kernel_rfl) (by kernel_rfl)
instance tf41:TyF Tryz.prog 41 false (.slice none 0 0) 1 24:=.of (by kernel_rfl) (by kernel_rfl)
instance tf53:TyF Tryz.prog 53 true (.agg #[qyq 0,qyq 0,qyq 0,qyq 0,qyq 0,.slice none 0 0]) 6 64:=.of (by kernel_rfl) (by kernel_rfl)
instance tf60:TyF Tryz.prog 60 true (.agg #[qyq 0,.slice none 0 0]) 2 32:=.of (by kernel_rfl) (by kernel_rfl)
instance tf64:TyF Tryz.prog 64 true (.agg #[qyq 0,qyq 0,qyq 0,qyq 0,.slice none 0 0,qyq 0,.slice none 0 0]) 7 88:=.of (by kernel_rfl) (by kernel_rfl)
instance tf69:TyF Tryz.prog 69 true (.agg #[qyq 0,qyq 0,qyq 0,qyq 0,qyq 0,.slice none 0 0,qyq 0,qyq 0,qyq 0,qyq 0,.slice none 0 0,qyq 0,.slice none 0 0]) 13 152:=.of (by kernel_rfl) (by kernel_rfl)
instance tf80:TyF Tryz.prog 80 false (.int .u64 0) 1 8:=.of (by kernel_rfl) (by kernel_rfl)
instance tf154:TyF Tryz.prog 154 true (.agg #[qyq 0,qyq 0]) 2 16:=.of (by kernel_rfl) (by kernel_rfl)
instance tf170:TyF Tryz.prog 170 false (.pointer none) 1 8:=.of (by kernel_rfl) (by kernel_rfl)
instance tf282:TyF Tryz.prog 282 true (.agg #[]) 0 0:=.of (by kernel_rfl) (by kernel_rfl)
instance tf285:TyF Tryz.prog 285 true (.agg #[qyq 0,qyq 0,.slice none 0 0]) 3 40:=.of (by kernel_rfl) (by kernel_rfl)
instance ff25_0:FdF Tryz.prog 25 0 0:=.of (by kernel_rfl)
instance ff25_1:FdF Tryz.prog 25 1 1:=.of (by kernel_rfl)
instance ff27_0:FdF Tryz.prog 27 0 0:=.of (by kernel_rfl)
instance ff27_1:FdF Tryz.prog 27 1 1:=.of (by kernel_rfl)
instance ff27_2:FdF Tryz.prog 27 2 2:=.of (by kernel_rfl)
instance ff30_0:FdF Tryz.prog 30 0 0:=.of (by kernel_rfl)
instance ff53_0:FdF Tryz.prog 53 0 0:=.of (by kernel_rfl)
instance ff53_1:FdF Tryz.prog 53 1 1:=.of (by kernel_rfl)
instance ff53_2:FdF Tryz.prog 53 2 4:=.of (by kernel_rfl)
instance ff60_0:FdF Tryz.prog 60 0 0:=.of (by kernel_rfl)
instance ff60_1:FdF Tryz.prog 60 1 1:=.of (by kernel_rfl)
instance ff64_0:FdF Tryz.prog 64 0 0:=.of (by kernel_rfl)
instance ff64_1:FdF Tryz.prog 64 1 1:=.of (by kernel_rfl)
instance ff64_2:FdF Tryz.prog 64 2 2:=.of (by kernel_rfl)
instance ff64_3:FdF Tryz.prog 64 3 3:=.of (by kernel_rfl)
instance ff64_4:FdF Tryz.prog 64 4 5:=.of (by kernel_rfl)
instance ff69_0:FdF Tryz.prog 69 0 0:=.of (by kernel_rfl)
instance ff69_1:FdF Tryz.prog 69 1 6:=.of (by kernel_rfl)
instance ff112_0:FdF Tryz.prog 112 0 0:=.of (by kernel_rfl)
instance ff112_1:FdF Tryz.prog 112 1 1:=.of (by kernel_rfl)
instance ff129_0:FdF Tryz.prog 129 0 0:=.of (by kernel_rfl)
instance ff129_1:FdF Tryz.prog 129 1 2:=.of (by kernel_rfl)
instance ff136_0:FdF Tryz.prog 136 0 0:=.of (by kernel_rfl)
instance ff136_1:FdF Tryz.prog 136 1 6:=.of (by kernel_rfl)
instance ff136_2:FdF Tryz.prog 136 2 7:=.of (by kernel_rfl)
instance ff148_0:FdF Tryz.prog 148 0 0:=.of (by kernel_rfl)
instance ff148_1:FdF Tryz.prog 148 1 13:=.of (by kernel_rfl)
instance ff154_0:FdF Tryz.prog 154 0 0:=.of (by kernel_rfl)
instance ff154_1:FdF Tryz.prog 154 1 1:=.of (by kernel_rfl)
instance ff172_0:FdF Tryz.prog 172 0 0:=.of (by kernel_rfl)
instance ff222_0:FdF Tryz.prog 222 0 0:=.of (by kernel_rfl)
instance ff222_1:FdF Tryz.prog 222 1 1:=.of (by kernel_rfl)
instance ff222_2:FdF Tryz.prog 222 2 2:=.of (by kernel_rfl)
instance ff231_0:FdF Tryz.prog 231 0 0:=.of (by kernel_rfl)
instance ff231_1:FdF Tryz.prog 231 1 2:=.of (by kernel_rfl)
instance ff241_0:FdF Tryz.prog 241 0 0:=.of (by kernel_rfl)
instance ff241_1:FdF Tryz.prog 241 1 2:=.of (by kernel_rfl)
instance ff285_0:FdF Tryz.prog 285 0 0:=.of (by kernel_rfl)
instance ff285_1:FdF Tryz.prog 285 1 1:=.of (by kernel_rfl)
instance st25:StF Tryz.prog 25 [(0,1),(1,1)] (.agg #[qyq 0,.slice none 0 0]):=.of (by kernel_rfl) (by kernel_rfl)
instance st27:StF Tryz.prog 27 [(0,1),(1,1),(2,1)] (.agg #[qyq 0,qyq 0,qyq 0]):=.of (by kernel_rfl) (by kernel_rfl)
instance st30:StF Tryz.prog 30 [(0,1)] (.agg #[.slice none 0 0]):=.of (by kernel_rfl) (by kernel_rfl)
instance st53:StF Tryz.prog 53 [(0,1),(1,3),(4,2)] (.agg #[qyq 0,qyq 0,qyq 0,qyq 0,qyq 0,.slice none 0 0]):=.of (by kernel_rfl) (by kernel_rfl)
instance st60:StF Tryz.prog 60 [(0,1),(1,1)] (.agg #[qyq 0,.slice none 0 0]):=.of (by kernel_rfl) (by kernel_rfl)
instance st64:StF Tryz.prog 64 [(0,1),(1,1),(2,1),(3,2),(5,2)] (.agg #[qyq 0,qyq 0,qyq 0,qyq 0,.slice none 0 0,qyq 0,.slice none 0 0]):=.of (by kernel_rfl) (by kernel_rfl)
instance st69:StF Tryz.prog 69 [(0,6),(6,7)] (.agg #[qyq 0,qyq 0,qyq 0,qyq 0,qyq 0,.slice none 0 0,qyq 0,qyq 0,qyq 0,qyq 0,.slice none 0 0,qyq 0,.slice none 0 0]):=.of (by kernel_rfl) (by kernel_rfl)
instance st112:StF Tryz.prog 112 [(0,1),(1,1)] (.agg #[qyq 0,.bool false]):=.of (by kernel_rfl) (by kernel_rfl)
instance st129:StF Tryz.prog 129 [(0,2),(2,1)] (.agg #[qyq 0,.slice none 0 0,.bool false]):=.of (by kernel_rfl) (by kernel_rfl)
instance st136:StF Tryz.prog 136 [(0,6),(6,1),(7,1)] (.agg #[qyq 0,qyq 0,qyq 0,qyq 0,qyq 0,.slice none 0 0,.slice none 0 0,.slice none 0 0]):=.of (by kernel_rfl) (by kernel_rfl)
instance st148:StF Tryz.prog 148 [(0,13),(13,1)] (.agg #[qyq 0,qyq 0,qyq 0,qyq 0,qyq 0,.slice none 0 0,qyq 0,qyq 0,qyq 0,qyq 0,.slice none 0 0,qyq 0,.slice none 0 0,qyq 0]):=.of (by kernel_rfl) (by kernel_rfl)
instance st154:StF Tryz.prog 154 [(0,1),(1,1)] (.agg #[qyq 0,qyq 0]):=.of (by kernel_rfl) (by kernel_rfl)
instance st172:StF Tryz.prog 172 [(0,2)] (.agg #[qyq 0,.slice none 0 0]):=.of (by kernel_rfl) (by kernel_rfl)
instance st222:StF Tryz.prog 222 [(0,1),(1,1),(2,1)] (.agg #[.slice none 0 0,.bool false,qyq 0]):=.of (by kernel_rfl) (by kernel_rfl)
instance st231:StF Tryz.prog 231 [(0,2),(2,1)] (.agg #[qyq 0,.slice none 0 0,qyq 0]):=.of (by kernel_rfl) (by kernel_rfl)
instance st241:StF Tryz.prog 241 [(0,2),(2,1)] (.agg #[qyq 0,.slice none 0 0,qyq 0]):=.of (by kernel_rfl) (by kernel_rfl)
instance st282:StF Tryz.prog 282 [] (.agg #[]):=.of (by kernel_rfl) (by kernel_rfl)
instance st285:StF Tryz.prog 285 [(0,1),(1,2)] (.agg #[qyq 0,qyq 0,.slice none 0 0]):=.of (by kernel_rfl) (by kernel_rfl)
instance se154:StE2 Tryz.prog 154 .i64 .i64:=⟨_,_,Tryz.underlying154,by kernel_rfl,by kernel_rfl,by decide,by decide,rfl,rfl,Tryz.underlying3,Tryz.underlying3⟩
instance se27:StE3 Tryz.prog 27 .i64 .i64 .i64:=⟨_,_,_,Tryz.underlying27,by kernel_rfl,by kernel_rfl,by decide,by decide,by decide,rfl,rfl,rfl,Tryz.underlying3,Tryz.underlying3,Tryz.underlying3⟩
theorem mixed:Tryz.prog.follows .mixedOrders=true:=by kernel_rfl
instance en5:EnC Tryz.prog 5:=⟨qd Tryz.func5 rfl rfl⟩
instance en6:EnC Tryz.prog 6:=⟨qd Tryz.func6 rfl rfl⟩
theorem ent7:Enters Tryz.prog 7:=qd Tryz.func7 rfl rfl
instance en7:EnC Tryz.prog 7:=⟨ent7⟩
instance en8:EnC Tryz.prog 8:=⟨qd Tryz.func8 rfl rfl⟩
theorem ent9:Enters Tryz.prog 9:=qd Tryz.func9 rfl rfl
instance en9:EnC Tryz.prog 9:=⟨ent9⟩
theorem ent10:Enters Tryz.prog 10:=qd Tryz.func10 rfl rfl
instance en10:EnC Tryz.prog 10:=⟨ent10⟩
instance en11:EnC Tryz.prog 11:=⟨qd Tryz.func11 rfl rfl⟩
theorem ent12:Enters Tryz.prog 12:=qd Tryz.func12 rfl rfl
instance en12:EnC Tryz.prog 12:=⟨ent12⟩
theorem ent13:Enters Tryz.prog 13:=qd Tryz.func13 rfl rfl
instance en13:EnC Tryz.prog 13:=⟨ent13⟩
theorem ent14:Enters Tryz.prog 14:=qd Tryz.func14 rfl rfl
instance en14:EnC Tryz.prog 14:=⟨ent14⟩
theorem ent15:Enters Tryz.prog 15:=qd Tryz.func15 rfl rfl
instance en15:EnC Tryz.prog 15:=⟨ent15⟩
theorem ent16:Enters Tryz.prog 16:=qd Tryz.func16 rfl rfl
instance en16:EnC Tryz.prog 16:=⟨ent16⟩
theorem ent17:Enters Tryz.prog 17:=qd Tryz.func17 rfl rfl
instance en17:EnC Tryz.prog 17:=⟨ent17⟩
theorem ent18:Enters Tryz.prog 18:=qd Tryz.func18 rfl rfl
instance en18:EnC Tryz.prog 18:=⟨ent18⟩
theorem ent19:Enters Tryz.prog 19:=qd Tryz.func19 rfl rfl
instance en19:EnC Tryz.prog 19:=⟨ent19⟩
theorem ent20:Enters Tryz.prog 20:=qd Tryz.func20 rfl rfl
instance en20:EnC Tryz.prog 20:=⟨ent20⟩
theorem ent21:Enters Tryz.prog 21:=qd Tryz.func21 rfl rfl
instance en21:EnC Tryz.prog 21:=⟨ent21⟩
instance en22:EnC Tryz.prog 22:=⟨qd Tryz.func22 rfl rfl⟩
theorem ent23:Enters Tryz.prog 23:=qd Tryz.func23 rfl rfl
instance en23:EnC Tryz.prog 23:=⟨ent23⟩
instance en24:EnC Tryz.prog 24:=⟨qd Tryz.func24 rfl rfl⟩
instance en25:EnC Tryz.prog 25:=⟨qd Tryz.func25 rfl rfl⟩
instance en26:EnC Tryz.prog 26:=⟨qd Tryz.func26 rfl rfl⟩
instance en27:EnC Tryz.prog 27:=⟨qd Tryz.func27 rfl rfl⟩
instance en28:EnC Tryz.prog 28:=⟨qd Tryz.func28 rfl rfl⟩
instance en29:EnC Tryz.prog 29:=⟨qd Tryz.func29 rfl rfl⟩
instance en30:EnC Tryz.prog 30:=⟨qd Tryz.func30 rfl rfl⟩
instance en31:EnC Tryz.prog 31:=⟨qd Tryz.func31 rfl rfl⟩
instance en32:EnC Tryz.prog 32:=⟨qd Tryz.func32 rfl rfl⟩
instance en33:EnC Tryz.prog 33:=⟨qd Tryz.func33 rfl rfl⟩
instance en34:EnC Tryz.prog 34:=⟨qd Tryz.func34 rfl rfl⟩
instance en35:EnC Tryz.prog 35:=⟨qd Tryz.func35 rfl rfl⟩
instance en36:EnC Tryz.prog 36:=⟨qd Tryz.func36 rfl rfl⟩
instance en37:EnC Tryz.prog 37:=⟨qd Tryz.func37 rfl rfl⟩
instance en63:EnC Tryz.prog 63:=⟨qd Tryz.func63 rfl rfl⟩
instance en64:EnC Tryz.prog 64:=⟨qd Tryz.func64 rfl rfl⟩
instance en65:EnC Tryz.prog 65:=⟨qd Tryz.func65 rfl rfl⟩
instance en66:EnC Tryz.prog 66:=⟨qd Tryz.func66 rfl rfl⟩
instance en67:EnC Tryz.prog 67:=⟨qd Tryz.func67 rfl rfl⟩
instance en68:EnC Tryz.prog 68:=⟨qd Tryz.func68 rfl rfl⟩
instance en69:EnC Tryz.prog 69:=⟨qd Tryz.func69 rfl rfl⟩
instance en70:EnC Tryz.prog 70:=⟨qd Tryz.func70 rfl rfl⟩
instance en71:EnC Tryz.prog 71:=⟨qd Tryz.func71 rfl rfl⟩
instance en72:EnC Tryz.prog 72:=⟨qd Tryz.func72 rfl rfl⟩
instance en73:EnC Tryz.prog 73:=⟨qd Tryz.func73 rfl rfl⟩
instance en74:EnC Tryz.prog 74:=⟨qd Tryz.func74 rfl rfl⟩
instance en75:EnC Tryz.prog 75:=⟨qd Tryz.func75 rfl rfl⟩
instance en76:EnC Tryz.prog 76:=⟨qd Tryz.func76 rfl rfl⟩
instance en77:EnC Tryz.prog 77:=⟨qd Tryz.func77 rfl rfl⟩
instance en78:EnC Tryz.prog 78:=⟨qd Tryz.func78 rfl rfl⟩
instance en79:EnC Tryz.prog 79:=⟨qd Tryz.func79 rfl rfl⟩
instance en80:EnC Tryz.prog 80:=⟨qd Tryz.func80 rfl rfl⟩
instance en81:EnC Tryz.prog 81:=⟨qd Tryz.func81 rfl rfl⟩
instance en82:EnC Tryz.prog 82:=⟨qd Tryz.func82 rfl rfl⟩
theorem ent83:Enters Tryz.prog 83:=qd Tryz.func83 rfl rfl
instance en83:EnC Tryz.prog 83:=⟨ent83⟩
instance en84:EnC Tryz.prog 84:=⟨qd Tryz.func84 rfl rfl⟩
instance en85:EnC Tryz.prog 85:=⟨qd Tryz.func85 rfl rfl⟩
instance en86:EnC Tryz.prog 86:=⟨qd Tryz.func86 rfl rfl⟩
instance en87:EnC Tryz.prog 87:=⟨qd Tryz.func87 rfl rfl⟩
instance en88:EnC Tryz.prog 88:=⟨qd Tryz.func88 rfl rfl⟩
instance en89:EnC Tryz.prog 89:=⟨qd Tryz.func89 rfl rfl⟩
instance en90:EnC Tryz.prog 90:=⟨qd Tryz.func90 rfl rfl⟩
instance en91:EnC Tryz.prog 91:=⟨qd Tryz.func91 rfl rfl⟩
instance en92:EnC Tryz.prog 92:=⟨qd Tryz.func92 rfl rfl⟩
instance en93:EnC Tryz.prog 93:=⟨qd Tryz.func93 rfl rfl⟩
instance en94:EnC Tryz.prog 94:=⟨qd Tryz.func94 rfl rfl⟩
theorem ent95:Enters Tryz.prog 95:=qd Tryz.func95 rfl rfl
instance en95:EnC Tryz.prog 95:=⟨ent95⟩
instance en96:EnC Tryz.prog 96:=⟨qd Tryz.func96 rfl rfl⟩
instance en97:EnC Tryz.prog 97:=⟨qd Tryz.func97 rfl rfl⟩
instance en98:EnC Tryz.prog 98:=⟨qd Tryz.func98 rfl rfl⟩
instance en99:EnC Tryz.prog 99:=⟨qd Tryz.func99 rfl rfl⟩
instance en100:EnC Tryz.prog 100:=⟨qd Tryz.func100 rfl rfl⟩
instance en101:EnC Tryz.prog 101:=⟨qd Tryz.func101 rfl rfl⟩
instance en102:EnC Tryz.prog 102:=⟨qd Tryz.func102 rfl rfl⟩
instance en103:EnC Tryz.prog 103:=⟨qd Tryz.func103 rfl rfl⟩
instance en104:EnC Tryz.prog 104:=⟨qd Tryz.func104 rfl rfl⟩
instance en105:EnC Tryz.prog 105:=⟨qd Tryz.func105 rfl rfl⟩
theorem ent106:Enters Tryz.prog 106:=qd Tryz.func106 rfl rfl
instance en106:EnC Tryz.prog 106:=⟨ent106⟩
instance en107:EnC Tryz.prog 107:=⟨qd Tryz.func107 rfl rfl⟩
instance en108:EnC Tryz.prog 108:=⟨qd Tryz.func108 rfl rfl⟩
instance en109:EnC Tryz.prog 109:=⟨qd Tryz.func109 rfl rfl⟩
instance en110:EnC Tryz.prog 110:=⟨qd Tryz.func110 rfl rfl⟩
instance en111:EnC Tryz.prog 111:=⟨qd Tryz.func111 rfl rfl⟩
instance en112:EnC Tryz.prog 112:=⟨qd Tryz.func112 rfl rfl⟩
instance en113:EnC Tryz.prog 113:=⟨qd Tryz.func113 rfl rfl⟩
instance en114:EnC Tryz.prog 114:=⟨qd Tryz.func114 rfl rfl⟩
instance en115:EnC Tryz.prog 115:=⟨qd Tryz.func115 rfl rfl⟩
instance en117:EnC Tryz.prog 117:=⟨qd Tryz.func117 rfl rfl⟩
instance en119:EnC Tryz.prog 119:=⟨qd Tryz.func119 rfl rfl⟩
instance en125:EnC Tryz.prog 125:=⟨qd Tryz.func125 rfl rfl⟩
instance en145:EnC Tryz.prog 145:=⟨qd Tryz.func145 rfl rfl⟩
instance en152:EnC Tryz.prog 152:=⟨qd Tryz.func152 rfl rfl⟩
instance en153:EnC Tryz.prog 153:=⟨qd Tryz.func153 rfl rfl⟩
instance en154:EnC Tryz.prog 154:=⟨qd Tryz.func154 rfl rfl⟩
instance en158:EnC Tryz.prog 158:=⟨qd Tryz.func158 rfl rfl⟩
instance en159:EnC Tryz.prog 159:=⟨qd Tryz.func159 rfl rfl⟩
instance en160:EnC Tryz.prog 160:=⟨qd Tryz.func160 rfl rfl⟩
instance en161:EnC Tryz.prog 161:=⟨qd Tryz.func161 rfl rfl⟩
instance en164:EnC Tryz.prog 164:=⟨qd Tryz.func164 rfl rfl⟩
instance en165:EnC Tryz.prog 165:=⟨qd Tryz.func165 rfl rfl⟩
instance en166:EnC Tryz.prog 166:=⟨qd Tryz.func166 rfl rfl⟩
instance en167:EnC Tryz.prog 167:=⟨qd Tryz.func167 rfl rfl⟩
instance en168:EnC Tryz.prog 168:=⟨qd Tryz.func168 rfl rfl⟩
instance en169:EnC Tryz.prog 169:=⟨qd Tryz.func169 rfl rfl⟩
instance en170:EnC Tryz.prog 170:=⟨qd Tryz.func170 rfl rfl⟩
instance en171:EnC Tryz.prog 171:=⟨qd Tryz.func171 rfl rfl⟩
instance en172:EnC Tryz.prog 172:=⟨qd Tryz.func172 rfl rfl⟩
theorem ent173:Enters Tryz.prog 173:=qd Tryz.func173 rfl rfl
instance en173:EnC Tryz.prog 173:=⟨ent173⟩
instance en174:EnC Tryz.prog 174:=⟨qd Tryz.func174 rfl rfl⟩
instance en175:EnC Tryz.prog 175:=⟨qd Tryz.func175 rfl rfl⟩
instance en176:EnC Tryz.prog 176:=⟨qd Tryz.func176 rfl rfl⟩
instance en177:EnC Tryz.prog 177:=⟨qd Tryz.func177 rfl rfl⟩
instance en178:EnC Tryz.prog 178:=⟨qd Tryz.func178 rfl rfl⟩
instance en179:EnC Tryz.prog 179:=⟨qd Tryz.func179 rfl rfl⟩
instance en180:EnC Tryz.prog 180:=⟨qd Tryz.func180 rfl rfl⟩
instance en181:EnC Tryz.prog 181:=⟨qd Tryz.func181 rfl rfl⟩
instance en182:EnC Tryz.prog 182:=⟨qd Tryz.func182 rfl rfl⟩
instance en183:EnC Tryz.prog 183:=⟨qd Tryz.func183 rfl rfl⟩
instance en184:EnC Tryz.prog 184:=⟨qd Tryz.func184 rfl rfl⟩
instance en185:EnC Tryz.prog 185:=⟨qd Tryz.func185 rfl rfl⟩
theorem ent186:Enters Tryz.prog 186:=qd Tryz.func186 rfl rfl
instance en186:EnC Tryz.prog 186:=⟨ent186⟩
instance en187:EnC Tryz.prog 187:=⟨qd Tryz.func187 rfl rfl⟩
instance en188:EnC Tryz.prog 188:=⟨qd Tryz.func188 rfl rfl⟩
instance en189:EnC Tryz.prog 189:=⟨qd Tryz.func189 rfl rfl⟩
instance en190:EnC Tryz.prog 190:=⟨qd Tryz.func190 rfl rfl⟩
instance en206:EnC Tryz.prog 206:=⟨qd Tryz.func206 rfl rfl⟩
instance en209:EnC Tryz.prog 209:=⟨qd Tryz.func209 rfl rfl⟩
instance en211:EnC Tryz.prog 211:=⟨qd Tryz.func211 rfl rfl⟩
instance en213:EnC Tryz.prog 213:=⟨qd Tryz.func213 rfl rfl⟩
instance en214:EnC Tryz.prog 214:=⟨qd Tryz.func214 rfl rfl⟩
instance en215:EnC Tryz.prog 215:=⟨qd Tryz.func215 rfl rfl⟩
theorem ent217:Enters Tryz.prog 217:=qd Tryz.func217 rfl rfl
instance en217:EnC Tryz.prog 217:=⟨ent217⟩
instance en224:EnC Tryz.prog 224:=⟨qd Tryz.func224 rfl rfl⟩
instance en228:EnC Tryz.prog 228:=⟨qd Tryz.func228 rfl rfl⟩
instance en229:EnC Tryz.prog 229:=⟨qd Tryz.func229 rfl rfl⟩
theorem ent230:Enters Tryz.prog 230:=qd Tryz.func230 rfl rfl
instance en230:EnC Tryz.prog 230:=⟨ent230⟩
theorem ent231:Enters Tryz.prog 231:=qd Tryz.func231 rfl rfl
instance en231:EnC Tryz.prog 231:=⟨ent231⟩
theorem ent232:Enters Tryz.prog 232:=qd Tryz.func232 rfl rfl
instance en232:EnC Tryz.prog 232:=⟨ent232⟩
instance en233:EnC Tryz.prog 233:=⟨qd Tryz.func233 rfl rfl⟩
instance en234:EnC Tryz.prog 234:=⟨qd Tryz.func234 rfl rfl⟩
instance en235:EnC Tryz.prog 235:=⟨qd Tryz.func235 rfl rfl⟩
instance en238:EnC Tryz.prog 238:=⟨qd Tryz.func238 rfl rfl⟩
theorem ent241:Enters Tryz.prog 241:=qd Tryz.func241 rfl rfl
instance en241:EnC Tryz.prog 241:=⟨ent241⟩
instance en242:EnC Tryz.prog 242:=⟨qd Tryz.func242 rfl rfl⟩
theorem ent249:Enters Tryz.prog 249:=qd Tryz.func249 rfl rfl
instance en249:EnC Tryz.prog 249:=⟨ent249⟩
theorem ent250:Enters Tryz.prog 250:=qd Tryz.func250 rfl rfl
instance en250:EnC Tryz.prog 250:=⟨ent250⟩
theorem ent251:Enters Tryz.prog 251:=qd Tryz.func251 rfl rfl
instance en251:EnC Tryz.prog 251:=⟨ent251⟩
instance en252:EnC Tryz.prog 252:=⟨qd Tryz.func252 rfl rfl⟩
theorem ent253:Enters Tryz.prog 253:=qd Tryz.func253 rfl rfl
instance en253:EnC Tryz.prog 253:=⟨ent253⟩
theorem qs9 (v:Value)(w:World):(Instr.makeInterface 282 v).run Tryz.prog w=.ok (.iface 282 v) w:=by simp[Instr.makeInterface,run_underlying Tryz.underlying282]
abbrev lostCh:List PanicEntry:=[{ v:=.iface 282 (.agg #[]),recovered:=false }]
theorem qs5 (p q:Addr):qjG Tryz.prog 230 #[.pointer (some p),.pointer (some q)]:=by
  intro w
  refine callsD_of_wpS Tryz.func230 rfl fun c₀ cs hu=>?_
  apply wpS_seq
  apply wpS_region
  simp[wpOpsS,go_sem,recoverD,hu,Tryz.ntmps230,Exit.thenS]
  refine wpS_of_wp ?_
  go_wp2
  cases c₀
  simp_all [bodyPostS,results,Tryz.results230]
theorem qpD (w:World):(Instr.typeAssert (.iface 282 (.agg #[])) 20 282 true).run Tryz.prog w=.ok (.tuple #[.agg #[],.bool true]) w:=by
  simp[Instr.typeAssert,run_underlying Tryz.underlying282]
theorem eqn230 (x y:Operand)(w:World):(do eqGuard .eql 20 x y (.iface 282 (.agg #[])) .nilIface;binOp .eql 20 (.iface 282 (.agg #[])) .nilIface:Sem Value).run Tryz.prog w=.ok (.bool false) w:=by
  simp[go_sem]
set_option maxRecDepth 100000 in
theorem qgC (g1 g2:Nat)(v1 v2:Value):qjH Tryz.prog 230 #[.pointer (some ⟨g1,0,none⟩),.pointer (some ⟨g2,0,none⟩)] 282 (.agg #[]) [⟨g1,22,[v1]⟩,⟨g2,4,[v2]⟩] [⟨g1,22,[.slice none 0 0]⟩,⟨g2,4,[.bool false]⟩]:=by
  intro w hp
  refine callsD_of_wpS Tryz.func230 rfl fun c₀ cs hu=>?_
  apply wpS_seq
  apply wpS_region
  simp[wpOpsS,go_sem,recoverD,hu,Tryz.ntmps230,Exit.thenS]
  refine wpS_of_wp (qfh.1 ?_)
  refine (show SXC Tryz.prog none 11 [] (muts [⟨g1,22,[v1]⟩,⟨g2,4,[v2]⟩] []) w _ _ [(0,.pointer (some ⟨g1,0,none⟩)),(1,.pointer (some ⟨g2,0,none⟩)),(5,.iface 282 (.agg #[]))] [⟨g1,22,[v1]⟩,⟨g2,4,[v2]⟩] [] [] (some ()) () from ?_) rfl _ _ ⟨rfl,by simp,fun i v hv=>?_⟩ hp
  · refine qkd ?_
    refine qaz ?_
    refine kj ?_
    refine qmT rfl rfl rfl (eqn230 _ _) rfl ?_
    refine vK ?_
    refine vE ?_
    refine qaS (b:=false) rfl (fun h=>by cases h) (fun _=>?_)
    refine qaz ?_
    refine kj ?_
    refine qlp rfl rfl qpD rfl ?_
    refine je rfl rfl rfl rfl ?_
    refine je rfl rfl rfl rfl ?_
    refine vK ?_
    refine vE ?_
    refine qaS (b:=true) rfl (fun _=>?_) (fun h=>by cases h)
    refine qaz ?_
    refine kj ?_
    refine qhk rfl tf282 rfl (fun g=>?_)
    refine yQ (i:=0) rfl rfl rfl tf282 rfl rfl rfl rfl rfl ?_
    refine vK ?_
    refine vE ?_
    refine kj ?_
    refine yQ (i:=1) rfl rfl rfl tf22 rfl rfl rfl rfl rfl ?_
    refine yQ (i:=2) rfl rfl rfl tf4 rfl rfl rfl rfl rfl ?_
    refine vK ?_
    refine qmX ?_
    intro _ a w' hf hp'
    exact ⟨hf.defers,_,rfl,_,results_none rfl _ _ _,rfl,rfl,hp'.pick (.cons 1 rfl (.cons 1 rfl .nil)) .nil (by simp)⟩
  · simp only[vZ] at hv
    split at hv
    · rename_i h;subst h;simpa using hv
    · split at hv
      · rename_i h;subst h;simpa using hv
      · split at hv
        · rename_i h;subst h;simpa using hv
        · cases hv
instance un2:UnF Tryz.prog 2 (.int .i64):=⟨Tryz.underlying2⟩
instance un3:UnF Tryz.prog 3 (.int .i64):=⟨Tryz.underlying3⟩
instance un4:UnF Tryz.prog 4 .bool:=⟨Tryz.underlying4⟩
instance un5:UnF Tryz.prog 5 (.int .u8):=⟨Tryz.underlying5⟩
instance un9:UnF Tryz.prog 9 .string:=⟨Tryz.underlying9⟩
instance un22:UnF Tryz.prog 22 (.slice 3):=⟨Tryz.underlying22⟩
instance un23:UnF Tryz.prog 23 (.slice 5):=⟨Tryz.underlying23⟩
instance un28:UnF Tryz.prog 28 (.slice 22):=⟨Tryz.underlying28⟩
instance un33:UnF Tryz.prog 33 (.slice 80):=⟨Tryz.underlying33⟩
instance un41:UnF Tryz.prog 41 (.slice 154):=⟨Tryz.underlying41⟩
instance un80:UnF Tryz.prog 80 (.int .u64):=⟨Tryz.underlying80⟩
instance un95:UnF Tryz.prog 95 (.slice 25):=⟨Tryz.underlying95⟩
instance un219:UnF Tryz.prog 219 (.int .u64):=⟨Tryz.underlying219⟩
theorem stm (c:Nat)(q:List Nat){p:List Nat}{A:Prop}(h:Stp (q++p) A):Stp (c::p) A:=⟨h.go⟩
set_option maxRecDepth 100000 in
theorem au0 (p:List Nat){A B:Prop}(t:B→Stp p A:=by
  intro h
  repeat (first
    | exact stp0 h
    | (refine stc 0 ?_;refine stk (fun h=>vK h) ?_)
    | (refine stc 1 ?_;refine stk (fun h=>yu rfl rfl rfl h) ?_)
    | (refine stc 2 ?_;refine stk (fun h=>vE h) ?_)
    | (refine stc 3 ?_;refine stk (fun h=>qaz h) ?_)
    | (refine stc 4 ?_;refine stk (fun h=>kj h) ?_)
    | (refine stc 5 ?_;refine stk (fun h=>vH rfl rfl rfl h) ?_)
    | (refine stc 6 ?_;refine stk (fun h=>qsu rfl rfl rfl h) ?_)
    | (refine stc 7 ?_;refine qgN rfl rfl rfl (v8 rfl) ?_)
    | (refine stc 8 ?_;refine qtC rfl rfl rfl ?_)
    | (refine stc 9 ?_;refine stk (fun h=>qpj h) ?_)
    | (refine stc 10 ?_;refine stk (fun h=>je rfl rfl rfl rfl h) ?_)
    | (refine stc 11 ?_;refine stk (fun h=>qsj rfl (And.left h) (And.right h)) ?_)
    | (refine stc 12 ?_;refine stk (fun h=>kd rfl rfl inferInstance rfl h) ?_)
    | (refine stc 13 ?_;refine stk (fun h=>qmR h) ?_)
    | (refine stc 14 ?_;refine stk (fun h=>qqj h) ?_)
    | (refine stc 15 ?_;exact stz (qqh))
    | (refine stc 16 ?_;refine stk (fun h=>qmW (b:=true) rfl rfl rfl rfl h) ?_)
    | (refine stc 17 ?_;refine stk (fun h=>qmW (b:=false) rfl rfl rfl rfl h) ?_)
    | (refine stc 18 ?_;exact stz (qs ()))
    | (refine stc 19 ?_;refine stk (fun h=>qkd h) ?_)
    | (refine stc 20 ?_;refine qtD rfl (by kernel_rfl) rfl ?_)
    | (refine stc 21 ?_;refine stk (fun h=>qqk h) ?_)
    | (refine stc 22 ?_;refine stk (fun h=>ka (i:=0) rfl rfl inferInstance rfl rfl (fun _=>rfl) rfl rfl h) ?_)
    | (refine stc 23 ?_;refine stk (fun h=>qpk rfl rfl rfl rfl h) ?_)
    | (refine stc 24 ?_;first
      | (refine sta 0 ?_;refine qgN rfl rfl rfl (vF rfl inferInstance) ?_)
      | (refine sta 1 ?_;refine stk (fun h=>qtI rfl rfl rfl h) ?_)
      | (refine sta 2 ?_;refine stk (fun h=>qtK rfl rfl rfl rfl h) ?_)
      | (refine sta 3 ?_;refine stk (fun h=>yQ (i:=0) rfl rfl rfl inferInstance rfl rfl rfl rfl rfl h) ?_)
      | (refine sta 4 ?_;refine stk (fun h=>ka (i:=0) rfl rfl inferInstance rfl rfl (by simp) rfl rfl h) ?_)
      | (refine sta 5 ?_;refine stk (fun h=>qtO rfl rfl rfl rfl h) ?_)
      | (refine sta 6 ?_;refine stk (fun h=>qtM rfl UnF.u rfl rfl h) ?_)
      | (refine sta 7 ?_;refine stk (fun h=>qsw h) ?_)
      | (refine sta 8 ?_;refine stk (fun h=>qmM (by kernel_rfl) h) ?_)
      | (refine sta 9 ?_;refine stk (fun h=>qhk rfl inferInstance rfl h) ?_)
      | (refine sta 10 ?_;refine stk (fun h=>qmX h) ?_)
      | (refine sta 11 ?_;refine stk (fun h=>qsc h) ?_)
      | (refine sta 12 ?_;refine stk (fun h=>qvg (And.left h) (And.right h)) ?_)
      | (refine sta 13 ?_;refine stk (fun h=>qsg h) ?_)
      | (refine sta 14 ?_;refine stk (fun h=>qsx h) ?_)
      | (refine sta 15 ?_;refine stk (fun h=>qpm rfl rfl rfl rfl h) ?_))
    | (refine stc 25 ?_;first
      | (refine sta 0 ?_;refine stk (fun h=>qtU rfl rfl rfl rfl h) ?_)
      | (refine sta 1 ?_;refine stk (fun h=>qtV rfl rfl rfl h) ?_)
      | (refine sta 2 ?_;refine qgM rfl rfl rfl (qQ (i:=0) rfl inferInstance rfl rfl (fun _=>rfl) rfl) ?_)
      | (refine sta 3 ?_;refine stk (fun h=>qbb rfl rfl rfl h) ?_)
      | (refine sta 4 ?_;refine stk (fun h=>ka (i:=1) rfl rfl inferInstance rfl rfl (by simp) rfl rfl h) ?_)
      | (refine sta 5 ?_;refine stk (fun h=>qd6 Int (eI .i64) 3 1 h) ?_)
      | (refine sta 6 ?_;refine stk (fun h=>ka (i:=1) rfl rfl inferInstance rfl rfl (fun _=>rfl) rfl rfl h) ?_)
      | (refine sta 7 ?_;refine stk (fun h=>qpo rfl rfl rfl rfl h) ?_)
      | (refine sta 8 ?_;refine stk (fun h=>yQ (i:=1) rfl rfl rfl inferInstance rfl rfl rfl rfl rfl h) ?_)
      | (refine sta 9 ?_;refine stk (fun h=>qsb h) ?_)
      | (refine sta 10 ?_;refine stk (fun h=>qqi h) ?_)
      | (refine sta 11 ?_;refine stk (fun h=>qsm rfl UnF.u UnF.u rfl rfl h) ?_)
      | (refine sta 12 ?_;refine stk (fun h=>qd6 Int (eI .u8) 5 1 h) ?_)
      | (refine sta 13 ?_;refine stk (fun h=>qlq h) ?_)
      | (refine sta 14 ?_;refine stk (fun h=>qkf (j:=0) rfl rfl inferInstance rfl rfl (fun _=>rfl) rfl rfl h) ?_)
      | (refine sta 15 ?_;refine stk (fun h=>qsd h) ?_))
    | (refine stc 26 ?_;first
      | (refine sta 0 ?_;exact stz (qb ((),())))
      | (refine sta 1 ?_;refine stk (fun h=>zd (.cons 1 rfl .nil) (qt 0 rfl qw) h) ?_)
      | (refine sta 2 ?_;refine stk (fun h=>ka (i:=2) rfl rfl inferInstance rfl rfl (by simp) rfl rfl h) ?_)
      | (refine sta 3 ?_;refine stk (fun h=>qhD Int (eI .i64) 3 1 h) ?_)
      | (refine sta 4 ?_;refine stk (fun h=>qvf (And.left h) (And.right h)) ?_)
      | (refine sta 5 ?_;refine stk (fun h=>qg qkq h) ?_)
      | (refine sta 6 ?_;refine stk (fun h=>zd (.cons 1 rfl (.cons 1 rfl (.cons 1 rfl .nil))) (qt 0 rfl (qt 1 rfl (qt 2 rfl (qt 3 rfl qw)))) h) ?_)
      | (refine sta 7 ?_;refine stk (fun h=>qtL rfl rfl rfl rfl h) ?_)
      | (refine sta 8 ?_;refine stk (fun h=>qhD Int (eI .u8) 5 1 h) ?_)
      | (refine sta 9 ?_;exact stz (qkh (.cons 0 rfl .nil)))
      | (refine sta 10 ?_;refine stk (fun h=>zd (.cons 0 rfl (.cons 1 rfl .nil)) (qt 0 rfl (qgx 1 rfl qw)) h) ?_)
      | (refine sta 11 ?_;refine qgN rfl rfl rfl (qvk UnF.u rfl) ?_)
      | (refine sta 12 ?_;refine stk (fun h=>qbL (j:=0) (qp .i64) (by decide) rfl UnF.u inferInstance rfl rfl rfl rfl h) ?_)
      | (refine sta 13 ?_;refine stk (fun h=>qsq h) ?_)
      | (refine sta 14 ?_;refine stk (fun h=>qg qky h) ?_)
      | (refine sta 15 ?_;refine stk (fun h=>qtN rfl rfl rfl rfl h) ?_))
    | (refine stc 27 ?_;first
      | (refine sta 0 ?_;refine stk (fun h=>yQ (i:=2) rfl rfl rfl inferInstance rfl rfl rfl rfl rfl h) ?_)
      | (refine sta 1 ?_;refine stk (fun h=>zd (.cons 1 rfl (.cons 1 rfl .nil)) (qt 0 rfl qw) h) ?_)
      | (refine sta 2 ?_;refine stk (fun h=>qsa h) ?_)
      | (refine sta 3 ?_;refine stk (fun h=>zd (.cons 1 rfl .nil) qw h) ?_)
      | (refine sta 4 ?_;refine stk (fun h=>qeT Int (eI .i64) 3 1 h) ?_)
      | (refine sta 5 ?_;refine stk (fun h=>qp8 (And.left h) (And.right h)) ?_)
      | (refine sta 6 ?_;refine stk (fun h=>qsv h) ?_)
      | (refine sta 7 ?_;refine stk (fun h=>zd (.cons 0 rfl (.cons 0 rfl (.cons 0 rfl (.cons 0 rfl .nil)))) qw h) ?_)
      | (refine sta 8 ?_;refine stk (fun h=>qtG h) ?_)
      | (refine sta 9 ?_;refine stk (fun h=>qse h) ?_)
      | (refine sta 10 ?_;refine stk (fun h=>qg qpz h) ?_)
      | (refine sta 11 ?_;refine stk (fun h=>qg qm6 h) ?_)
      | (refine sta 12 ?_;refine stk (fun h=>qW qfG h) ?_)
      | (refine sta 13 ?_;refine qgM rfl rfl rfl (qQ (i:=1) rfl inferInstance rfl rfl (fun _=>rfl) rfl) ?_)
      | (refine sta 14 ?_;refine stk (fun h=>qgP rfl rfl rfl rfl rfl h) ?_)
      | (refine sta 15 ?_;refine stk (fun h=>ka (i:=2) rfl rfl inferInstance rfl rfl (fun _=>rfl) rfl rfl h) ?_))
    | (refine stc 28 ?_;first
      | (refine sta 0 ?_;refine stk (fun h=>qtP rfl rfl rfl rfl h) ?_)
      | (refine sta 1 ?_;refine stk (fun h=>qg qkt h) ?_)
      | (refine sta 2 ?_;refine stk (fun h=>qg qkG h) ?_)
      | (refine sta 3 ?_;refine stk (fun h=>ka (i:=4) rfl rfl inferInstance rfl rfl (by simp) rfl rfl h) ?_)
      | (refine sta 4 ?_;refine stk (fun h=>qbp 24 rfl (by kernel_rfl) (.cons 0 rfl (.cons 1 rfl .nil)) h) ?_)
      | (refine sta 5 ?_;refine stk (fun h=>qsz (qyo) (qyp×Nat) eN22 rN22 22 1 h) ?_)
      | (refine sta 6 ?_;refine stk (fun h=>qmU (j:=0) rfl UnF.u inferInstance rfl rfl rfl rfl h) ?_)
      | (refine sta 7 ?_;refine stk (fun h=>qg qpx h) ?_)
      | (refine sta 8 ?_;refine stk (fun h=>qg qko h) ?_)
      | (refine sta 9 ?_;refine stk (fun h=>qg qlL h) ?_)
      | (refine sta 10 ?_;exact stz (zy ()))
      | (refine sta 11 ?_;refine stk (fun h=>ka (i:=3) rfl rfl inferInstance rfl rfl (by simp) rfl rfl h) ?_)
      | (refine sta 12 ?_;refine stk (fun h=>ka (i:=3) rfl rfl inferInstance rfl rfl (fun _=>rfl) rfl rfl h) ?_)
      | (refine sta 13 ?_;refine stk (fun h=>qnR (j:=0) zX (by decide) rfl UnF.u inferInstance rfl rfl rfl rfl h) ?_)
      | (refine sta 14 ?_;refine stk (fun h=>qsf h) ?_)
      | (refine sta 15 ?_;refine stk (fun h=>qg qkJ h) ?_))
    | (refine stc 29 ?_;first
      | (refine sta 0 ?_;refine stk (fun h=>qd1 (j:=0) rfl UnF.u inferInstance rfl rfl rfl rfl h) ?_)
      | (refine sta 1 ?_;refine stk (fun h=>zd (.cons 1 rfl (.cons 1 rfl .nil)) (qt 0 rfl (qt 1 rfl (qt 2 rfl (qt 3 rfl qw)))) h) ?_)
      | (refine sta 2 ?_;refine stk (fun h=>zd (.cons 0 rfl (.cons 0 rfl .nil)) (qt 0 rfl (qt 1 rfl qw)) h) ?_)
      | (refine sta 3 ?_;refine stk (fun h=>qg qjd h) ?_)
      | (refine sta 4 ?_;refine stk (fun h=>zd (.cons 1 rfl (.cons 1 rfl (.cons 1 rfl (.cons 1 rfl (.cons 1 rfl (.cons 1 rfl (.cons 1 rfl (.cons 1 rfl .nil)))))))) (qt 0 rfl (qt 1 rfl (qt 2 rfl (qt 3 rfl qw)))) h) ?_)
      | (refine sta 5 ?_;refine stk (fun h=>zY 0 (qp .i64) rfl UnF.u inferInstance rfl rfl rfl rfl rfl (.inr ⟨0,rfl⟩) rfl rfl h) ?_)
      | (refine sta 6 ?_;refine stk (fun h=>qso (i:=0) rfl UnF.u inferInstance rfl rfl rfl rfl h) ?_)
      | (refine sta 7 ?_;refine stk (fun h=>qtH rfl rfl rfl rfl h) ?_)
      | (refine sta 8 ?_;refine stk (fun h=>qlr rfl rfl rfl h) ?_)
      | (refine sta 9 ?_;refine stk (fun h=>qsh (j:=0) rfl h) ?_)
      | (refine sta 10 ?_;refine stk (fun h=>qW qlC h) ?_)
      | (refine sta 11 ?_;refine stk (fun h=>qW qm9 h) ?_)
      | (refine sta 12 ?_;refine stk (fun h=>qbo (j:=0) (qp .i64) (by decide) rfl h) ?_)
      | (refine sta 13 ?_;refine qgM rfl rfl rfl (qQ (i:=3) rfl inferInstance rfl rfl (fun _=>rfl) rfl) ?_)
      | (refine sta 14 ?_;refine stk (fun h=>qbL (j:=1) (qp .i64) (by decide) rfl UnF.u inferInstance rfl rfl rfl rfl h) ?_)
      | (refine sta 15 ?_;refine stk (fun h=>qg qdl h) ?_))
    | (refine stc 30 ?_;first
      | (refine sta 0 ?_;refine stk (fun h=>qg (fun h=>qgj F _ _ _ _ _ _ _ h) h) ?_)
      | (refine sta 1 ?_;refine stk (fun h=>qg qlD h) ?_)
      | (refine sta 2 ?_;refine stk (fun h=>qtR rfl rfl rfl rfl h) ?_)
      | (refine sta 3 ?_;refine stk (fun h=>qg qei h) ?_)
      | (refine sta 4 ?_;refine stk (fun h=>zd (.cons 0 rfl .nil) (qt 0 rfl (qt 1 rfl qw)) h) ?_)
      | (refine sta 5 ?_;refine stk (fun h=>qg (fun h=>qgd F _ _ _ _ _ h) h) ?_)
      | (refine sta 6 ?_;refine stk (fun h=>qg qkp h) ?_)
      | (refine sta 7 ?_;refine stk (fun h=>qg qkH h) ?_)
      | (refine sta 8 ?_;refine stk (fun h=>zY 0 (qp .u8) rfl UnF.u inferInstance rfl rfl rfl rfl rfl (.inr ⟨0,rfl⟩) rfl rfl h) ?_)
      | (refine sta 9 ?_;refine stk (fun h=>qg qna h) ?_)
      | (refine sta 10 ?_;refine stk (fun h=>zd .nil (qgx 0 rfl qw) h) ?_)
      | (refine sta 11 ?_;refine stk (fun h=>zd (.cons 0 rfl .nil) (qt 0 rfl qw) h) ?_)
      | (refine sta 12 ?_;refine stk (fun h=>qhR rfl rfl rfl rfl rfl h) ?_)
      | (refine sta 13 ?_;refine stk (fun h=>qg qgi h) ?_)
      | (refine sta 14 ?_;refine stk (fun h=>qg (fun h=>qhp F _ _ _ _ _ h) h) ?_)
      | (refine sta 15 ?_;refine stk (fun h=>qbL (j:=0) qbn (by decide) rfl UnF.u inferInstance rfl rfl rfl rfl h) ?_))
    | (refine stc 31 ?_;first
      | (refine sta 0 ?_;refine stk (fun h=>qkf (j:=0) rfl rfl inferInstance rfl rfl (by simp) rfl rfl h) ?_)
      | (refine sta 1 ?_;refine stk (fun h=>qf8 0 rfl h) ?_)
      | (refine sta 2 ?_;refine stk (fun h=>qg qes h) ?_)
      | (refine sta 3 ?_;refine stk (fun h=>qW qe6 h) ?_)
      | (refine sta 4 ?_;refine stk (fun h=>zd (.cons 0 rfl (.cons 0 rfl .nil)) (qt 0 rfl qw) h) ?_)
      | (refine sta 5 ?_;refine stk (fun h=>qbo (j:=0) (qp .u8) (by decide) rfl h) ?_)
      | (refine sta 6 ?_;refine stk (fun h=>zF 0 _ rfl rfl rfl (v8 rfl) rfl h) ?_)
      | (refine sta 7 ?_;refine stk (fun h=>zF 1 _ rfl rfl rfl (v8 rfl) rfl h) ?_)
      | (refine sta 8 ?_;refine stk (fun h=>zF 2 _ rfl rfl rfl (vF rfl inferInstance) rfl h) ?_)
      | (refine sta 9 ?_;refine stk (fun h=>zF 4 _ rfl rfl rfl (v8 rfl) rfl h) ?_)
      | (refine sta 10 ?_;refine stk (fun h=>zd (.cons 0 rfl (.cons 0 rfl (.cons 0 rfl (.cons 0 rfl .nil)))) (qt 0 rfl qw) h) ?_)
      | (refine sta 11 ?_;refine stk (fun h=>qg qjj h) ?_)
      | (refine sta 12 ?_;refine stk (fun h=>qg qhr h) ?_)
      | (refine sta 13 ?_;refine stk (fun h=>qg (fun h=>qgn F _ _ _ _ _ _ _ _ _ _ _ h) h) ?_)
      | (refine sta 14 ?_;refine stk (fun h=>qeT Int (eI .u8) 5 1 h) ?_)
      | (refine sta 15 ?_;refine stk (fun h=>qg qlQ h) ?_))
    | (refine stc 32 ?_;first
      | (refine sta 0 ?_;refine stk (fun h=>qW qkC h) ?_)
      | (refine sta 1 ?_;refine stk (fun h=>qg qh0 h) ?_)
      | (refine sta 2 ?_;refine stk (fun h=>qg (fun h=>qhq F _ _ _ _ _ _ _ _ _ h) h) ?_)
      | (refine sta 3 ?_;refine stk (fun h=>qg qju h) ?_)
      | (refine sta 4 ?_;refine stk (fun h=>qg qlI h) ?_)
      | (refine sta 5 ?_;refine stk (fun h=>zd (.cons 0 rfl (.cons 0 rfl .nil)) (qt 0 rfl (qt 1 rfl (qt 2 rfl qw))) h) ?_)
      | (refine sta 6 ?_;refine stk (fun h=>qg qjp h) ?_)
      | (refine sta 7 ?_;refine stk (fun h=>zd (.cons 0 rfl (.cons 0 rfl (.cons 0 rfl .nil))) (qt 0 rfl (qt 1 rfl (qt 2 rfl (qt 3 rfl qw)))) h) ?_)
      | (refine sta 8 ?_;refine stk (fun h=>zd (.cons 1 rfl (.cons 1 rfl (.cons 1 rfl (.cons 1 rfl .nil)))) (qt 0 rfl (qt 1 rfl (qt 2 rfl (qt 3 rfl (qt 4 rfl (qt 5 rfl (qgx 0 rfl qw))))))) h) ?_)
      | (refine sta 9 ?_;refine stk (fun h=>ka (i:=6) rfl rfl inferInstance rfl rfl (by simp) rfl rfl h) ?_)
      | (refine sta 10 ?_;refine stk (fun h=>ka (i:=8) rfl rfl inferInstance rfl rfl (by simp) rfl rfl h) ?_)
      | (refine sta 11 ?_;refine stk (fun h=>qg qql h) ?_)
      | (refine sta 12 ?_;refine stk (fun h=>qpn (lim:=140737488355328) (qp .u8) rfl UnF.u inferInstance rfl rfl rfl rfl rfl h) ?_)
      | (refine sta 13 ?_;refine stk (fun h=>qfC rfl rfl rfl rfl rfl h) ?_)
      | (refine sta 14 ?_;refine stk (fun h=>qtX rfl rfl rfl rfl h) ?_)
      | (refine sta 15 ?_;refine stk (fun h=>qg qjx h) ?_))
    | (refine stc 33 ?_;first
      | (refine sta 0 ?_;refine stk (fun h=>qg qhK h) ?_)
      | (refine sta 1 ?_;refine stk (fun h=>qbL (j:=0) (qp .u64) (by decide) rfl UnF.u inferInstance rfl rfl rfl rfl h) ?_)
      | (refine sta 2 ?_;refine stk (fun h=>qW qfS h) ?_)
      | (refine sta 3 ?_;refine stk (fun h=>qtW rfl rfl rfl rfl rfl h) ?_)
      | (refine sta 4 ?_;refine qgN rfl rfl rfl (qt2 UnF.u UnF.u rfl) ?_)
      | (refine sta 5 ?_;refine stk (fun h=>qqc rfl UnF.u rfl rfl rfl h) ?_)
      | (refine sta 6 ?_;refine stk (fun h=>qaS rfl (And.left h) (And.right h)) ?_)
      | (refine sta 7 ?_;refine stk (fun h=>qW qm7 h) ?_)
      | (refine sta 8 ?_;refine stk (fun h=>qW qgb h) ?_)
      | (refine sta 9 ?_;refine stk (fun h=>qg qh2 h) ?_)
      | (refine sta 10 ?_;refine stk (fun h=>qg qlS h) ?_)
      | (refine sta 11 ?_;refine qgM rfl rfl rfl (qQ (i:=2) rfl inferInstance rfl rfl (fun _=>rfl) rfl) ?_)
      | (refine sta 12 ?_;refine stk (fun h=>yQ (i:=3) rfl rfl rfl inferInstance rfl rfl rfl rfl rfl h) ?_)
      | (refine sta 13 ?_;refine stk (fun h=>zd (.cons 0 rfl (.cons 0 rfl (.cons 0 rfl (.cons 0 rfl (.cons 0 rfl .nil))))) (qt 0 rfl qw) h) ?_)
      | (refine sta 14 ?_;refine stk (fun h=>qd6 (Int×Int) eS154 154 2 h) ?_)
      | (refine sta 15 ?_;refine stk (fun h=>qW qnb h) ?_))
    | (refine stc 34 ?_;first
      | (refine sta 0 ?_;refine stk (fun h=>qg qjt h) ?_)
      | (refine sta 1 ?_;exact stz (qsk))
      | (refine sta 2 ?_;refine stk (fun h=>qtJ rfl UnF.u rfl rfl h) ?_)
      | (refine sta 3 ?_;refine stk (fun h=>qsp (i:=0) (qp .i64) rfl UnF.u inferInstance rfl rfl rfl rfl h) ?_)
      | (refine sta 4 ?_;refine stk (fun h=>qg qeC h) ?_)
      | (refine sta 5 ?_;refine stk (fun h=>qW qeh h) ?_)
      | (refine sta 6 ?_;refine stk (fun h=>qg qhH h) ?_)
      | (refine sta 7 ?_;refine stk (fun h=>qg qfW h) ?_)
      | (refine sta 8 ?_;refine stk (fun h=>qg qlO h) ?_)
      | (refine sta 9 ?_;refine stk (fun h=>qbp 18 rfl (by kernel_rfl) (.cons 0 rfl .nil) h) ?_)
      | (refine sta 10 ?_;refine stk (fun h=>qg qgV h) ?_)
      | (refine sta 11 ?_;refine stk (fun h=>qW qgo h) ?_)
      | (refine sta 12 ?_;refine stk (fun h=>qi5 2 rfl h) ?_)
      | (refine sta 13 ?_;refine stk (fun h=>qg qkK h) ?_)
      | (refine sta 14 ?_;refine stk (fun h=>qW qf0 h) ?_)
      | (refine sta 15 ?_;refine stk (fun h=>qvh rfl rfl rfl rfl h) ?_))
    | (refine stc 35 ?_;first
      | (refine sta 0 ?_;refine stk (fun h=>qg qkL h) ?_)
      | (refine sta 1 ?_;refine stk (fun h=>qg qgc h) ?_)
      | (refine sta 2 ?_;refine stk (fun h=>qg qlJ h) ?_)
      | (refine sta 3 ?_;refine stk (fun h=>zF 5 _ rfl rfl rfl (v8 rfl) rfl h) ?_)
      | (refine sta 4 ?_;refine stk (fun h=>zF 6 _ rfl rfl rfl (v8 rfl) rfl h) ?_)
      | (refine sta 5 ?_;refine stk (fun h=>zF 7 _ rfl rfl rfl (v8 rfl) rfl h) ?_)
      | (refine sta 6 ?_;refine stk (fun h=>zF 8 _ rfl rfl rfl (vF rfl inferInstance) rfl h) ?_)
      | (refine sta 7 ?_;refine stk (fun h=>zF 11 _ rfl rfl rfl (v8 rfl) rfl h) ?_)
      | (refine sta 8 ?_;refine stk (fun h=>zF 12 _ rfl rfl rfl (v8 rfl) rfl h) ?_)
      | (refine sta 9 ?_;refine stk (fun h=>zF 18 _ rfl rfl rfl (v8 rfl) rfl h) ?_)
      | (refine sta 10 ?_;refine stk (fun h=>zd (.cons 0 rfl (.cons 0 rfl (.cons 0 rfl (.cons 0 rfl (.cons 0 rfl .nil))))) (qt 0 rfl (qt 1 rfl qw)) h) ?_)
      | (refine sta 11 ?_;refine stk (fun h=>qg qlM h) ?_)
      | (refine sta 12 ?_;refine stk (fun h=>qW qjn h) ?_)
      | (refine sta 13 ?_;refine stk (fun h=>qbo (j:=2) (qp .u8) (by decide) rfl h) ?_)
      | (refine sta 14 ?_;refine stk (fun h=>qg qkE h) ?_)
      | (refine sta 15 ?_;refine stk (fun h=>qg qkD h) ?_))
    | (refine stc 36 ?_;first
      | (refine sta 0 ?_;refine stk (fun h=>qg qkx h) ?_)
      | (refine sta 1 ?_;refine stk (fun h=>qW qfR h) ?_)
      | (refine sta 2 ?_;refine stk (fun h=>qg qkw h) ?_)
      | (refine sta 3 ?_;refine stk (fun h=>qg qm8 h) ?_)
      | (refine sta 4 ?_;refine stk (fun h=>qg qpA h) ?_)
      | (refine sta 5 ?_;refine stk (fun h=>qg qlH h) ?_)
      | (refine sta 6 ?_;refine stk (fun h=>qg qkv h) ?_)
      | (refine sta 7 ?_;refine stk (fun h=>qbo (j:=2) (qp .i64) (by decide) rfl h) ?_)
      | (refine sta 8 ?_;refine stk (fun h=>qg (fun h=>qe8 F _ _ _ _ _ _ _ h) h) ?_)
      | (refine sta 9 ?_;refine stk (fun h=>qg (fun h=>qhs F _ _ _ _ _ _ _ _ _ _ _ _ _ h) h) ?_)
      | (refine sta 10 ?_;refine stk (fun h=>zd (.cons 0 rfl .nil) qw h) ?_)
      | (refine sta 11 ?_;refine stk (fun h=>zd (.cons 0 rfl (.cons 0 rfl (.cons 0 rfl .nil))) qw h) ?_)
      | (refine sta 12 ?_;refine stk (fun h=>qd1 (j:=3) rfl UnF.u inferInstance rfl rfl rfl rfl h) ?_)
      | (refine sta 13 ?_;refine stk (fun h=>qg qkB h) ?_)
      | (refine sta 14 ?_;refine stk (fun h=>qg qlG h) ?_)
      | (refine sta 15 ?_;refine stk (fun h=>qg qlF h) ?_))
    | (refine stc 37 ?_;first
      | (refine sta 0 ?_;refine stk (fun h=>qg qjv h) ?_)
      | (refine sta 1 ?_;refine stk (fun h=>qtY h) ?_)
      | (refine sta 2 ?_;refine stk (fun h=>qW qlB h) ?_)
      | (refine sta 3 ?_;refine stk (fun h=>zd (.cons 0 rfl (.cons 0 rfl .nil)) (qt 1 rfl (qt 2 rfl (qt 3 rfl qw))) h) ?_)
      | (refine sta 4 ?_;refine stk (fun h=>qiX (j:=2) zX (by decide) rfl h) ?_)
      | (refine sta 5 ?_;refine stk (fun h=>qg qkn h) ?_))
    | apply stm 59 [0,2]
    | apply stm 60 [5,0,2]
    | apply stm 61 [3,4]
    | apply stm 62 [3,4,1]
    | apply stm 63 [0,2,11]
    | apply stm 64 [5,0,2,9]
    | apply stm 65 [10,10]
    | apply stm 66 [6,6]
    | apply stm 67 [24,7,14]
    | apply stm 68 [0,15]
    | apply stm 69 [24,11,3,4]
    | apply stm 70 [24,13,21]
    | apply stm 71 [21,24,14]
    | apply stm 72 [6,6,6,6]
    | apply stm 73 [12,22]
    | apply stm 74 [13,2]
    | apply stm 75 [5,0,2,3,4,1]
    | apply stm 76 [24,2,16]
    | apply stm 77 [5,0,2,9,14]
    | apply stm 78 [24,10,2]
    | apply stm 79 [5,0,2,3,4]
    | apply stm 80 [1,10,10]
    | apply stm 81 [25,0,0,2,11]
    | apply stm 82 [3,4,24,1]
    | apply stm 83 [3,3,4,1]
    | apply stm 84 [12,25,6]
    | apply stm 85 [5,0,2,9,18]
    | apply stm 86 [3,4,24,5]
    | apply stm 87 [24,13,21,21,24,14]
    | apply stm 88 [7,0,7,1]
    | apply stm 89 [24,6,1]
    | apply stm 90 [6,6,17]
    | apply stm 91 [5,0,2,3,4,24,4]
    | apply stm 92 [24,15,17]
    | apply stm 93 [5,0,2,3,3,4,1]
    | apply stm 94 [24,11,3,4,24,1]
    | apply stm 95 [1,10,10,24,9]
    | apply stm 96 [25,3,12]
    | apply stm 97 [24,3,0,2]
    | apply stm 98 [3,4,1,24,2]
    | apply stm 99 [5,0,2,9,14,18]
    | apply stm 100 [24,0,0,25,2,1]
    | apply stm 101 [24,5,0,2,11]
    | apply stm 102 [24,3,0]
    | apply stm 103 [24,15,0,2,11]
    | apply stm 104 [25,12,25,12]
    | apply stm 105 [25,10,26,9]
    | apply stm 106 [25,15,3,4,24,1]
    | apply stm 107 [8,41,8,42]
    | apply stm 108 [13,2,3,4]
    | apply stm 109 [0,2,19]
    | apply stm 110 [24,6,1,0,2,19]
    | apply stm 111 [7,58,24,8]
    | apply stm 112 [7,12,7,13]
    | apply stm 113 [3,4,24,5,0,2]
    | apply stm 114 [5,0,2,9,14,25,5]
    | apply stm 115 [7,4,7,5]
    | apply stm 116 [25,9,3,4]
    | apply stm 117 [3,4,24,5,0,2,3]
    | apply stm 118 [3,4,24,5,0,2,3,11]
    | apply stm 119 [8,56,7,57]
    | apply stm 120 [8,36,8,37]
    | apply stm 121 [8,34,8,35]
    | apply stm 122 [7,53,7,54]
    | apply stm 123 [7,43,7,44]
    | apply stm 124 [3,4,1,24,6,1,0,2,19]
    | apply stm 125 [24,5,1]
    | apply stm 126 [1,24,6]
    | apply stm 127 [8,40,8,41,8,42]
    | apply stm 128 [24,7,14,14]
    | apply stm 129 [24,7,14,14,24,7,14]
    | apply stm 130 [12,24,4])):Stv p B A:=⟨fun h=>(t h).go⟩
theorem au (p:List Nat){A B:Prop}(h:B)(t:Stv p B A:=by exact au0 _):A:=t.go h
theorem av (p:List Nat){A B C:Prop}(h:B)(k:C)(t:Stv p (B∧C) A:=by exact au0 _):A:=t.go ⟨h,k⟩
theorem az (p:List Nat){A:Prop}(t:Stv p True A:=by exact au0 _):A:=t.go trivial
theorem qpx {F:Nat}{x1:qyo}{a2:qyp}{c3:Nat}{r:(qyo×qyo)}(hm:qaW F x1=some r) :
    Pure Tryz.prog 5 [.slice a2 x1.length c3] [Sl (eI .i64) 1 (.slice a2 x1.length c3) x1] (qyp×Nat) (fun g=>.slice g.1 r.1.length g.2) (fun g=>[Ro (eI .i64) 3 1 (.slice g.1 (r.1++r.2).length g.2) (r.1++r.2)]) (fun _=>[]):=by
 refine ql Tryz.func5 rfl Tryz.ntmps5 rfl hm (fun w=>?_)
 refine au [116,75,24,6,23] ?_
 refine qpn (lim:=35184372088832) (qp .i64) rfl UnF.u inferInstance rfl rfl rfl rfl rfl ?_
 intro a4 c5
 refine au [1,29,5] ?_
 intro x6 e6 a7 c8
 refine qn (vs:=[qyq 77]) (ys:=([77]:qyo)) (qp .i64) (by decide) rfl Tryz.underlying22 tf3 rfl rfl rfl rfl rfl (by decide) (fun a9 c10=>zY 1 (qp .i64) rfl Tryz.underlying22 tf3 rfl rfl rfl rfl rfl (.inl ⟨0,_,rfl⟩) rfl rfl (fun x11 e11 a12 c13=>?_))
 refine au [126,29,6] ?_
 intro x14 e14
 refine au [64] ?_
 exact qs (a12,c13)
set_option maxHeartbeats 4000000 in
theorem qko {F:Nat}{x1:Int}{x2:qyo}{a3:qyp}{c4:Nat}{r:(Int×(qyo×qyo))}(hm:yv F x1 x2=some r) :
    Pure Tryz.prog 6 [.agg #[qyq x1,.slice a3 x2.length c4]] [Sl (eI .u8) 1 (.slice a3 x2.length c4) x2] (qyp×Nat) (fun g=>.agg #[qyq r.1,.slice g.1 r.2.1.length g.2]) (fun g=>[Ro (eI .u8) 5 1 (.slice g.1 (r.2.1++r.2.2).length g.2) (r.2.1++r.2.2)]) (fun _=>[]):=by
 refine ql Tryz.func6 rfl Tryz.ntmps6 rfl hm (fun w=>?_)
 refine au [25,9,82] ?_
 intro g5
 refine au [24,9] ?_
 intro g6
 refine au [59] ?_
 refine qh (fun ((x40,(a38,c39)):((qyo×qyo)×(qyp×Nat)))=>([(2,.pointer (some ⟨g6,0,none⟩))],[⟨g6,25,[qyq x1,.slice a38 x40.1.length c39]⟩],[Ro (eI .u8) 5 1 (.slice a38 (x40.1++x40.2).length c39) (x40.1++x40.2)],[],ju F x1 x40)) ?_ ?_
 refine qy mixed [] [⟨g5,25,[qyq x1,.slice a3 x2.length c4]⟩] [Sl (eI .u8) 1 (.slice a3 x2.length c4) x2] (.cons 1 rfl .nil) (qt 0 rfl qw) 18 rfl ?_
 refine au [100,24,0,2,25,2,3,26,11,4,7,5,24,0,7,25,2,8,24,0,12,25,2,13,26,11,14] ?_
 refine qa9 6 10 rfl rfl (by kernel_rfl) rfl rfl ?_ ?_
 refine au [32,12] ?_
 intro a41 c42
 refine au [0,26,1] ?_
 refine qa9 9 10 rfl rfl (by kernel_rfl) rfl rfl ?_ ?_
 refine au [30,8] ?_
 intro x43 e43 a44 c45
 refine au [0,26,1,20,10] ?_
 refine qn (vs:=[.int .u8 77]) (ys:=([77]:qyo)) (qp .u8) (by decide) rfl Tryz.underlying23 tf5 rfl rfl rfl rfl rfl (by decide) (fun a46 c47=>?_)
 refine au [0,26,1,20,11] ?_
 refine zY 1 (qp .u8) rfl Tryz.underlying23 tf5 rfl rfl rfl rfl rfl (.inl ⟨0,_,rfl⟩) rfl rfl (fun x48 e48 a49 c50=>?_)
 refine au [0,26,1,20,15,29,6] ?_
 intro x51 e51
 refine au [0,26,1] ?_
 refine qm 16 (.agg #[qyq x1,.slice a49 x51.1.length c50]) rfl rfl rfl (qdr (cells:=[qyq x1,.slice a49 x51.1.length c50]) st25 rfl (by kernel_rfl)) ?_
 refine au [20,17,102,26,1,24,8] ?_
 exact qx (qb (x51,(a49,c50))) (by intro c h;cases h)
 refine qba (m':=((app 140737488355328 ([]:qyo) x2).bind fun x54=>((app 140737488355328 x54 ([77]:qyo)).bind fun x57=>((cutP x57 (x2.length:Int)).bind fun x60=>ju F x1 x60)))) (rfl) (qn (vs:=[.int .u8 77]) (ys:=([77]:qyo)) (qp .u8) (by decide) rfl Tryz.underlying23 tf5 rfl rfl rfl rfl rfl (by decide) (fun a52 c53=>?_))
 refine au [0,26,1,20,9] ?_
 refine zY 1 (qp .u8) rfl UnF.u inferInstance rfl rfl rfl rfl rfl (.inr ⟨0,rfl⟩) rfl rfl ?_
 intro x54 e54 a55 c56
 refine au [0,26,1,20,11] ?_
 refine zY 0 (qp .u8) rfl Tryz.underlying23 tf5 rfl rfl rfl rfl rfl (.inl ⟨1,_,rfl⟩) rfl rfl (fun x57 e57 a58 c59=>?_)
 refine au [0,26,1,20,15,29,6] ?_
 intro x60 e60
 refine au [0,26,1] ?_
 refine qm 16 (.agg #[qyq x1,.slice a58 x60.1.length c59]) rfl rfl rfl (qdr (cells:=[qyq x1,.slice a58 x60.1.length c59]) st25 rfl (by kernel_rfl)) ?_
 refine au [20,17,102,26,1,24,8] ?_
 exact qx (qb (x60,(a58,c59))) (by intro c h;cases h)
 refine qba (m':=(chk (decide (0≤(iadd .i64 (x2.length:Int) 1)∧(iadd .i64 (x2.length:Int) 1)≤(140737488355328:Int))) (((app 140737488355328 ([]:qyo) x2).bind fun x65=>((app 140737488355328 x65 ([77]:qyo)).bind fun x68=>((cutP x68 (x2.length:Int)).bind fun x71=>ju F x1 x71)))))) (rfl) (qn (vs:=[.int .u8 77]) (ys:=([77]:qyo)) (qp .u8) (by decide) rfl Tryz.underlying23 tf5 rfl rfl rfl rfl rfl (by decide) (fun a61 c62=>?_))
 refine au [0,26,1,20,6,32,12] ?_
 intro a63 c64
 refine au [0,26,1,20,9,30,8] ?_
 intro x65 e65 a66 c67
 refine au [0,26,1,20,11] ?_
 refine zY 0 (qp .u8) rfl Tryz.underlying23 tf5 rfl rfl rfl rfl rfl (.inl ⟨1,_,rfl⟩) rfl rfl (fun x68 e68 a69 c70=>?_)
 refine au [0,26,1,20,15,29,6] ?_
 intro x71 e71
 refine au [0,26,1] ?_
 refine qm 16 (.agg #[qyq x1,.slice a69 x71.1.length c70]) rfl rfl rfl (qdr (cells:=[qyq x1,.slice a69 x71.1.length c70]) st25 rfl (by kernel_rfl)) ?_
 refine au [20,17,102,26,1,24,8] ?_
 exact qx (qb (x71,(a69,c70))) (by intro c h;cases h)
 rintro ⟨x40,⟨a38,c39⟩⟩
 try dsimp only
 refine au [9] ?_
 exact qF (a38,c39) (resL (rs:=[.cell 2 25]) rfl (.cell (i:=0) rfl tf25 rfl rfl (by simp) rfl ResOk.nil) rfl) (fun h=>by subst h;exact (.cons 0 rfl .nil))
theorem qlL {F:Nat}{x1:Int}{r:Bool}(hm:jc F x1=some r) :
    Pure Tryz.prog 66 [qyq x1] [] Unit (fun _=>.bool r) (fun _=>[]) (fun _=>[]):=by
 refine ql Tryz.func66 rfl Tryz.ntmps66 rfl hm (fun w=>?_)
 refine au [116,75,26,7,1] ?_
 refine qk 3 (decide (0≤x1)) [(8,.bool ((decide (0≤x1)) && (decide (x1≤1048576))))] (fun h2=>?_) (fun h2=>?_) ?_
 refine qa (os:=_) rfl (qf (k:=5) rfl h2 ?_)
 refine au [1,26,15,16] ?_
 refine qc (d:=8) (v:=.bool ((decide (0≤x1)) && (decide (x1≤1048576)))) rfl (by rw[h2];simp only[Bool.true_and]) ?_
 exact az [68]
 refine qa (os:=_) rfl (qe (k:=5) rfl h2 ?_)
 refine au [90] ?_
 refine qc (d:=8) (v:=.bool ((decide (0≤x1)) && (decide (x1≤1048576)))) rfl (by rw[h2];simp only[Bool.false_and]) ?_
 exact az [68]
 refine qa (os:=_) rfl ?_
 exact az [85]
set_option maxHeartbeats 4000000 in
theorem qky {F:Nat}{x1:qyo}{a2:qyp}{c3:Nat}{r:Int}(hm:zV F x1=some r) :
    Pure Tryz.prog 65 [.slice a2 x1.length c3] [Sl (eI .i64) 1 (.slice a2 x1.length c3) x1] Unit (fun _=>qyq r) (fun _=>[]) (fun _=>[]):=by
 refine ql Tryz.func65 rfl Tryz.ntmps65 rfl hm (fun w=>?_)
 refine av [116,93,24,6,103] ?_ ?_
 intro _
 exact az [61,99]
 intro _
 refine au [108,60] ?_
 refine qh (fun ((_,_):(Unit×Unit))=>([],[],[],[],qe2 F)) ?_ ?_
 refine au [124] ?_
 refine qu (fun (((x88,x89),_):((Int×Int)×Unit))=>([(3,qyq x88),(9,.slice a2 x1.length c3),(10,qyq (x1.length:Int)),(11,qyq x89)],[],[],[Sl (eI .i64) 1 (.slice a2 x1.length c3) x1])) (fun k (s:((Int×Int)×Unit))=>va F x1 k s.1) ((-1,0),()) F ?_
 intro k0
 rintro ⟨⟨x88,x89⟩,_⟩
 try dsimp only
 refine qB (m':=qbv F x1 (va F x1 k0) x88 x89) rfl ?_
 refine av [118] ?_ ?_
 intro _
 refine au [74,3,19,61,26,12] ?_
 intro x0 e0 b0 o0
 refine au [25,14,60,3,19,62,28,9] ?_
 intro x2 e1 _
 refine av [25,1,60,11] ?_ ?_
 intro _
 exact az [61,64,67,129,18]
 intro _
 refine av [62,1,26,15,60,11] ?_ ?_
 intro _
 exact az [61,64,67,129,18]
 intro _
 refine au [13,78,4,1,5,0,78,4,23,1,0] ?_
 exact qr ((x0,iadd .i64 x89 1),())
 intro _
 exact az [87,26,0]
 rintro ⟨_,_⟩
 try dsimp only
 exact az [61,85]
theorem qjx {F:Nat}{x1:Int}{r:Int}(hm:qbl F x1=some r) :
    Pure Tryz.prog 153 [qyq x1] [] Unit (fun _=>.int .u64 r) (fun _=>[]) (fun _=>[]):=by
 refine ql Tryz.func153 rfl Tryz.ntmps153 rfl hm (fun w=>?_)
 refine au [116,75,25,11,32,13,1,27,14,25,11,32,14,5,26,13] ?_
 intro x2 e2
 refine qc (d:=2) (v:=.int .u64 x2) rfl (by rw[e2] <;> rfl) ?_
 exact az [59,9,18]
theorem qgf {F:Nat}{g1:Nat}{x2:Int}{x3:Bool}{x4:Int}{r:(Int×Int×Bool)}(hm:qaf F x2 x3 x4=some r) :
    PureM Tryz.prog 158 [.pointer (some ⟨g1,0,none⟩),qyq x4] [⟨g1,112,[qyq x2,.bool x3]⟩] [] [] Unit (fun _=>.int .u64 r.1) (fun _=>[⟨g1,112,[qyq r.2.1,.bool r.2.2]⟩]) (fun _=>[]):=by
 refine zw Tryz.func158 rfl Tryz.ntmps158 rfl hm (fun w=>?_)
 refine au [69,60] ?_
 refine qh (fun ((x8,_):(Int×Unit))=>([(0,.pointer (some ⟨g1,0,none⟩)),(1,qyq x4),(4,.int .u64 x8)],[⟨g1,112,[qyq x2,.bool x3]⟩],[],[],qaI F x4 x8)) ?_ ?_
 refine av [62,25,3,73,63] ?_ ?_
 intro _
 refine au [4,1,1,25,3,73,25,7,25,7,25,11,5,26,13] ?_
 intro x9 e9
 refine qc (d:=4) (v:=.int .u64 x9) rfl (by rw[e9] <;> rfl) ?_
 refine au [0] ?_
 exact qb (x9,())
 intro _
 refine au [4,1,1,25,3,73,25,7,32,15] ?_
 intro x10 e10 _
 refine au [5,0] ?_
 exact qb (x10,())
 rintro ⟨x8,_⟩
 try dsimp only
 exact az [62,1,1,96,24,3,96,97,62,64,28,10]
set_option maxHeartbeats 4000000 in
theorem qna {F:Nat}{x1:qyo}{a2:qyp}{c3:Nat}{x4:Int}{r:qyo}(hm:qcH F x1 x4=some r) :
    Pure Tryz.prog 67 [.slice a2 x1.length c3,qyq x4] [Sl (eI .i64) 1 (.slice a2 x1.length c3) x1] (qyp×Nat) (fun g=>.slice g.1 r.length g.2) (fun g=>[Ro (eI .u64) 80 1 (.slice g.1 r.length g.2) r]) (fun _=>[]):=by
 refine ql Tryz.func67 rfl Tryz.ntmps67 rfl hm (fun w=>?_)
 refine au [69,75] ?_
 refine qo (cells:=[qyq x4,.bool false]) rfl st112 rfl (by kernel_rfl) rfl ?_
 refine au [24,1] ?_
 intro g5
 refine au [79,60] ?_
 refine qh (fun ((x75,(a73,c74)):(qyo×(qyp×Nat)))=>([(6,.slice a73 x75.length c74)],[],[Ro (eI .u64) 80 1 (.slice a73 x75.length c74) x75],[],qen F x75)) ?_ ?_
 refine au [124] ?_
 refine qeT Int (eI .u64) 80 1 (qu (fun (((x98,x99,x0,x2),(a96,c97)):((qyo×Int×Int×Bool)×(qyp×Nat)))=>([(5,.pointer (some ⟨g5,0,none⟩)),(6,.slice a96 x98.length c97),(12,.slice a2 x1.length c3),(13,qyq (x1.length:Int)),(14,qyq x99)],[⟨g5,112,[qyq x0,.bool x2]⟩],[Ro (eI .u64) 80 1 (.slice a96 x98.length c97) x98],[Sl (eI .i64) 1 (.slice a2 x1.length c3) x1])) (fun k (s:((qyo×Int×Int×Bool)×(qyp×Nat)))=>jP F x1 k s.1) ((([]:qyo),0,x4,false),(none,0)) F ?_)
 intro k0
 rintro ⟨⟨x98,x99,x0,x2⟩,⟨a96,c97⟩⟩
 try dsimp only
 refine qB (m':=qda F x1 (jP F x1 k0) x98 x99 x0 x2) rfl ?_
 refine av [118] ?_ ?_
 intro _
 refine au [74,3,19,61,26,12] ?_
 intro x3 e0 b0 o0
 refine au [25,14,60,4,1,1,1] ?_
 refine qW qgf ?_
 intro x5 e1 _
 refine qn (vs:=[.int .u64 x5.1]) (ys:=([x5.1]:qyo)) (qp .u64) (by decide) rfl Tryz.underlying33 tf80 rfl rfl rfl rfl rfl (by decide) (fun a0 c0=>zY 1 (qp .u64) rfl Tryz.underlying33 tf80 rfl rfl rfl rfl rfl (.inl ⟨0,_,rfl⟩) rfl rfl (fun x6 e2 a1 c1=>?_))
 refine au [5,0,78,4,23,1,0] ?_
 exact qr ((x6,iadd .i64 x99 1,x5.2.1,x5.2.2),(a1,c1))
 intro _
 refine au [87] ?_
 exact qb (x98,(a96,c97))
 rintro ⟨x75,⟨a73,c74⟩⟩
 try dsimp only
 refine au [62,64] ?_
 exact qs (a73,c74)
set_option maxHeartbeats 4000000 in
theorem qhp (F:Nat)(x1:qyo)(a2:qyp)(c3:Nat)(x4:Int)(r:(qyo×Int))(hm:qaE F x1 x4=some r) :
    Pure Tryz.prog 7 [.slice a2 x1.length c3,qyq x4] [Sl (eI .i64) 1 (.slice a2 x1.length c3) x1] (qyp×Nat) (fun g=>.tuple #[.slice g.1 r.1.length g.2,qyq r.2]) (fun g=>[Ro (eI .u64) 80 1 (.slice g.1 r.1.length g.2) r.1]) (fun _=>[]):=by
 refine ql Tryz.func7 rfl Tryz.ntmps7 rfl hm (fun w=>?_)
 refine au [69,5,75,26,14] ?_
 intro x5 e5 _
 refine au [60] ?_
 refine qh (fun ((x11,_):(Int×Unit))=>([(0,.slice a2 x1.length c3),(1,qyq x4),(6,qyq x11)],[],[],[Sl (eI .i64) 1 (.slice a2 x1.length c3) x1],qaF F x1 x4 x11)) ?_ ?_
 refine au [98,1] ?_
 refine qq 4 (fun ((x19,_):(Bool×Unit))=>([(0,.slice a2 x1.length c3),(1,qyq x4),(6,qyq x5),(15,.bool x19)],[],[],[Sl (eI .i64) 1 (.slice a2 x1.length c3) x1],qaG F x1 x4 x5 x19)) ?_ ?_
 refine qa (os:=_) rfl ?_
 refine av [24,12] ?_ ?_
 intro h17
 refine qf (k:=11) rfl h17 ?_
 refine au [1,28,9] ?_
 intro x21 e21 _
 refine au [25,1,16,0] ?_
 exact qb ((!x21),())
 intro h17
 refine qe (k:=11) rfl h17 ?_
 refine au [66,6,17,0] ?_
 exact qb (false,())
 rintro ⟨x19,_⟩
 try dsimp only
 refine qa (os:=_) rfl ?_
 refine av [63] ?_ ?_
 intro _
 refine au [4,5,0] ?_
 exact qb ((3:Int),())
 intro _
 refine au [13] ?_
 exact qb (x5,())
 rintro ⟨x11,_⟩
 try dsimp only
 refine av [83,81] ?_ ?_
 intro _
 refine au [62,5,77] ?_
 exact qd6 Int (eI .u64) 80 1 (qs (none,0))
 intro _
 refine au [74,62,1,30,9] ?_
 rintro x13 e13 ⟨a14,c15⟩
 refine au [5,64] ?_
 exact qs (a14,c15)
theorem qhK {F:Nat}{x1:Int}{r:Int}(hm:jI F x1=some r) :
    Pure Tryz.prog 154 [.int .u64 x1] [] Unit (fun _=>qyq r) (fun _=>[]) (fun _=>[]):=by
 refine ql Tryz.func154 rfl Tryz.ntmps154 rfl hm (fun w=>?_)
 refine au [116,75,27,14,25,11,1,29,7,25,11] ?_
 refine qtT rfl rfl rfl ?_
 refine au [32,14,5,26,13] ?_
 intro x2 e2
 refine qc (d:=2) (v:=qyq x2) rfl (by rw[e2] <;> rfl) ?_
 exact az [59,9,18]
set_option maxHeartbeats 4000000 in
theorem qfS {F:Nat}{g1:Nat}{x2:Int}{x3:Bool}{x4:Int}{r:(Bool×Int×Bool)}(hm:zP F x2 x3 x4=some r) :
    PureM Tryz.prog 68 [.pointer (some ⟨g1,0,none⟩),.int .u64 x4] [⟨g1,112,[qyq x2,.bool x3]⟩] [] [] Unit (fun _=>.bool r.1) (fun _=>[⟨g1,112,[qyq r.2.1,.bool r.2.2]⟩]) (fun _=>[]):=by
 refine zw Tryz.func68 rfl Tryz.ntmps68 rfl hm (fun w=>?_)
 refine av [69,93,103] ?_ ?_
 intro _
 exact az [61,77,28,10]
 intro _
 refine au [74] ?_
 refine qh (fun ((x8,_):(Int×Unit))=>([(0,.pointer (some ⟨g1,0,none⟩))],[⟨g1,112,[qyq x8,.bool x3]⟩],[],[],kN F x8)) ?_ ?_
 refine av [62,25,3,73,63] ?_ ?_
 intro _
 refine au [4,1,25,3,73,1,25,11,23,23,96,102] ?_
 exact qb (iadd .i64 x2 (iadd .i64 (iconv .i64 x4) 1),())
 intro _
 refine qy mixed [9] [] [(BlkD.is ⟨g1,112,[qyq x2,.bool x3]⟩)] .nil (qgx 0 rfl qw) 10 rfl ?_
 refine au [88,24,0,2] ?_
 refine qO 3 (qyq x2) [[9]] rfl rfl rfl (yS (j:=0) rfl tf3 rfl rfl (fun _=>rfl) rfl) ?_
 refine au [7,4,20,5,33,0] ?_
 intro x10 e10 _
 refine au [0,30,10,7,6,7,7,24,0,8,20,9,102] ?_
 refine qbp 9 rfl (by kernel_rfl) .nil ?_
 refine au [24,8] ?_
 exact qx (qb (iadd .i64 x2 x10,())) (by intro c h;cases h)
 rintro ⟨x8,_⟩
 try dsimp only
 refine au [62,96,97,62,25,3,73,28,9] ?_
 intro x9 e9 _
 exact az [64,28,10]
set_option maxHeartbeats 4000000 in
theorem qlI {F:Nat}{x1:qyo}{a2:qyp}{c3:Nat}{x4:Int}{r:(qyo×Int)}(hm:qbM F x1 x4=some r) :
    Pure Tryz.prog 8 [.slice a2 x1.length c3,qyq x4] [Sl (eI .u64) 1 (.slice a2 x1.length c3) x1] (qyp×Nat) (fun g=>.tuple #[.slice g.1 r.1.length g.2,qyq r.2]) (fun g=>[Ro (eI .i64) 3 1 (.slice g.1 r.1.length g.2) r.1]) (fun _=>[]):=by
 refine ql Tryz.func8 rfl Tryz.ntmps8 rfl hm (fun w=>?_)
 refine av [69,5,60,3,19,62,24,6,24,15,60,11] ?_ ?_
 intro _
 refine au [61,5,64,67,25,5] ?_
 exact qs (none,0)
 intro _
 refine au [62,28,9] ?_
 intro x8 e8 _
 refine av [25,1,60,11] ?_ ?_
 intro _
 refine au [61,5,64,67,25,5] ?_
 exact qs (none,0)
 intro _
 refine au [13,78,62] ?_
 refine qo (cells:=[qyq x4,.bool false]) rfl st112 rfl (by kernel_rfl) rfl ?_
 refine au [24,1] ?_
 intro g9
 refine au [79,60] ?_
 refine qh (fun ((x97,(a95,c96)):(qyo×(qyp×Nat)))=>([(7,.slice a95 x97.length c96)],[],[Ro (eI .i64) 3 1 (.slice a95 x97.length c96) x97],[],qdM F x97)) ?_ ?_
 refine au [124,27,4] ?_
 refine qu (fun (((x0,x2,x3,x5),(a0,c0)):((qyo×Int×Int×Bool)×(qyp×Nat)))=>([(6,.pointer (some ⟨g9,0,none⟩)),(7,.slice a0 x0.length c0),(21,.slice a2 x1.length c3),(22,qyq (x1.length:Int)),(23,qyq x2)],[⟨g9,112,[qyq x3,.bool x5]⟩],[Ro (eI .i64) 3 1 (.slice a0 x0.length c0) x0],[Sl (eI .u64) 1 (.slice a2 x1.length c3) x1])) (fun k (s:((qyo×Int×Int×Bool)×(qyp×Nat)))=>vS F x1 k s.1) ((([]:qyo),0,x4,false),(none,0)) F ?_
 intro k0
 rintro ⟨⟨x0,x2,x3,x5⟩,⟨a0,c0⟩⟩
 try dsimp only
 refine qB (m':=qb3 F x1 (vS F x1 k0) x0 x2 x3 x5) rfl ?_
 refine av [118] ?_ ?_
 intro _
 refine au [74,3,19,61,33,1] ?_
 intro x6 e0 b0 o0
 refine au [25,14,93,1,33,2] ?_
 intro x7 e1 _
 refine av [25,1,63] ?_ ?_
 intro _
 refine au [61,5,77,129,25,5] ?_
 exact qs (none,0)
 intro _
 refine au [74,4,1,1,25,3,73] ?_
 refine qn (vs:=[qyq x7.2.1]) (ys:=([x7.2.1]:qyo)) (qp .i64) (by decide) rfl Tryz.underlying22 tf3 rfl rfl rfl rfl rfl (by decide) (fun a1 c1=>zY 1 (qp .i64) rfl Tryz.underlying22 tf3 rfl rfl rfl rfl rfl (.inl ⟨0,_,rfl⟩) rfl rfl (fun x9 e2 a3 c2=>?_))
 refine au [5,0,78,4,23,1,0] ?_
 exact qr ((x9,iadd .i64 x2 1,x7.2.1,x7.2.2),(a3,c2))
 intro _
 refine au [87] ?_
 exact qb (x0,(a0,c0))
 rintro ⟨x97,⟨a95,c96⟩⟩
 try dsimp only
 refine au [62,5,64] ?_
 exact qs (a95,c96)
theorem qji {F:Nat}{x1:Int}{x2:qyo}{a3:qyp}{c4:Nat}{x5:Int}{x6:Int}{r:Unit}(hm:qel F x1 x2 x5 x6=some r) :
    PureM Tryz.prog 113 [.agg #[qyq x1,.slice a3 x2.length c4],qyq x5,qyq x6] [] [] [Sl (eI .u8) 1 (.slice a3 x2.length c4) x2] (Nat×Nat×Nat) (fun g=>.func (.func 186) #[] #[.pointer (some ⟨g.1,0,none⟩),.pointer (some ⟨g.2.1,0,none⟩),.pointer (some ⟨g.2.2,0,none⟩)]) (fun g=>[⟨g.1,3,[qyq x5]⟩,⟨g.2.1,3,[qyq x6]⟩,⟨g.2.2,25,[qyq x1,.slice a3 x2.length c4]⟩]) (fun _=>[]):=by
 refine zw Tryz.func113 rfl Tryz.ntmps113 rfl hm (fun w=>?_)
 refine au [106] ?_
 intro g7
 refine au [24,1] ?_
 intro g8
 refine au [24,1] ?_
 intro g9
 refine au [79,29,8,64] ?_
 exact zy (g8,g9,g7)
set_option maxHeartbeats 4000000 in
theorem qgb {F:Nat}{g1:Nat}{x2:Int}{x3:qyo}{a4:qyp}{c5:Nat}{x6:Int}{r:(Int×qyo)}(hm:vo F x2 x3 x6=some r) :
    PureM Tryz.prog 114 [.pointer (some ⟨g1,0,none⟩),.int .u64 x6] [⟨g1,172,[qyq x2,.slice a4 x3.length c5]⟩] [Ro (eI .u8) 5 1 (.slice a4 x3.length c5) x3] [] (qyp×Nat) (fun _=>.tuple #[]) (fun g=>[⟨g1,172,[qyq r.1,.slice g.1 r.2.length g.2]⟩]) (fun g=>[Ro (eI .u8) 5 1 (.slice g.1 r.2.length g.2) r.2]):=by
 refine zw Tryz.func114 rfl Tryz.ntmps114 rfl hm (fun w=>?_)
 refine au [24,11] ?_
 refine qh (fun ((x15,(a13,c14)):(qyo×(qyp×Nat)))=>([(0,.pointer (some ⟨g1,0,none⟩)),(1,.int .u64 x6)],[⟨g1,172,[qyq x2,.slice a13 x15.length c14]⟩],[Ro (eI .u8) 5 1 (.slice a13 x15.length c14) x15],[],kZ F x2 x6 x15)) ?_ ?_
 refine av [62,96,73,33,3,24,2,63] ?_ ?_
 intro _
 refine au [4,1,1,96,73] ?_
 refine qn (vs:=[.int .u8 0]) (ys:=([0]:qyo)) (qp .u8) (by decide) rfl Tryz.underlying23 tf5 rfl rfl rfl rfl rfl (by decide) (fun a44 c45=>zY 1 (qp .u8) rfl Tryz.underlying23 tf5 rfl rfl rfl rfl rfl (.inl ⟨0,_,rfl⟩) rfl rfl (fun x46 e46 a47 c48=>?_))
 refine au [96,12,102] ?_
 exact qb (x46,(a47,c48))
 intro _
 refine au [13] ?_
 exact qb (x3,(a4,c5))
 rintro ⟨x15,⟨a13,c14⟩⟩
 try dsimp only
 refine au [3,29,9] ?_
 intro x30 e30 g31 h32
 replace h32:a13=some ⟨g31,0,none⟩:=h32
 have h33:=qha (k:=x15.length) (c:=c14) h32
 refine au [27,8] ?_
 intro h34
 refine au [29,9] ?_
 intro x36 e36 g37 h38
 replace h38:a13=some ⟨g37,0,none⟩:=h38
 have h39:=qha (k:=x15.length) (c:=c14) h38
 refine qy mixed [25] [⟨g1,172,[qyq x2,.slice a13 x15.length c14]⟩] [qK g31 ((iquo .i64 x2 8).toNat*1) ((eI .u8) x30),qK g37 ((iquo .i64 x2 8).toNat*1) ((eI .u8) x36)] (.cons 0 rfl .nil) (qmg 0 rfl (qgX (qp .u8) e30 h32) (qmg 0 rfl (qgX (qp .u8) e36 h38) qw)) 26 rfl ?_
 refine au [88,24,0,2,24,0,3,25,2,4,7,5,7,6,24,0,7,24,0,8,25,2,9] ?_
 refine qm 10 (qyq (iquo .i64 x2 8)) rfl rfl rfl (qvm rfl rfl rfl) (qi (d:=26) (v:=.slice (some ⟨g31,0,none⟩) x15.length c14) rfl (by rw[h32] <;> rfl) (qm 11 (.pointer (some ⟨g31,(iquo .i64 x2 8).toNat*1,none⟩)) rfl rfl rfl (qgT Tryz.underlying23 tf5 rfl rfl (qP e30).1 (yr e30)) (qi (d:=26) (v:=.slice a13 x15.length c14) rfl (by rw[h32] <;> rfl) (qO 12 (.int .u8 x30) [[25]] rfl rfl rfl (zG (j:=0) rfl tf5 rfl rfl (fun _=>rfl) rfl) ?_))))
 refine au [7,13] ?_
 refine qm 14 (.int .u64 (ishl .u64 x6 7)) rfl rfl rfl (qga rfl rfl rfl) ?_
 refine au [33,4,15,7,16,7,17,24,0,18,24,0,19,25,2,20] ?_
 refine qm 21 (qyq (irem x2 8)) rfl rfl rfl (qlA rfl rfl rfl) (qm 22 (.int .u8 (ishr .u8 (iconv .u8 (ishl .u64 x6 7)) (irem x2 8))) rfl rfl rfl (qvn rfl rfl h34) ?_)
 refine au [7,23] ?_
 refine qi (d:=26) (v:=.slice (some ⟨g37,0,none⟩) x15.length c14) rfl (by rw[h38] <;> rfl) (qm 24 (.pointer (some ⟨g37,(iquo .i64 x2 8).toNat*1,none⟩)) rfl rfl rfl (qgT Tryz.underlying23 tf5 rfl rfl (qP e36).1 (yr e36)) (qi (d:=26) (v:=.slice a13 x15.length c14) rfl (by rw[h38] <;> rfl) ?_))
 refine au [20,25] ?_
 refine qd3 (j:=0) (y':=ior .u8 x30 (ishr .u8 (iconv .u8 (ishl .u64 x6 7)) (irem x2 8))) (qp .u8) rfl rfl rfl tf5 rfl (qha h38) (qP e36).2.1 rfl (fun x41 e41 h42=>?_)
 have h43:x41.length=x15.length:=by rw[← e41,List.length_set]
 refine qc (d:=26) (v:=.slice a13 x41.length c14) rfl h42 (qeU (i:=0) (cs':=[qyq x2,.slice a13 x41.length c14]) rfl (by rw[h42] <;> rfl) ?_)
 refine au [0] ?_
 refine qbp 25 rfl (by kernel_rfl) (.cons 0 (by rw[h43];rfl) .nil) ?_
 refine au [24,8] ?_
 refine qx ?_ (by intro c h;cases h)
 refine au [2,4,1,96,73,23,96,12,102] ?_
 exact zy (a13,c14)
theorem qeg {F:Nat}{x1:qyo}{a2:qyp}{c3:Nat}{r:qyo}(hm:kX F x1=some r) :
    Pure Tryz.prog 235 [.slice a2 x1.length c3] [Sl (eI .u8) 1 (.slice a2 x1.length c3) x1] (qyp×Nat) (fun g=>.slice g.1 r.length g.2) (fun g=>[Ro (eI .u8) 5 1 (.slice g.1 r.length g.2) r]) (fun _=>[]):=by
 refine ql Tryz.func235 rfl Tryz.ntmps235 rfl hm (fun w=>?_)
 refine av [116,93,33,5,59,33,6] ?_ ?_
 intro h11
 refine qmP 0 (qp .u8) (by decide) rfl h11 (fun h12=>?_)
 subst h12
 refine qB (m':=some ([]:qyo)) rfl ?_
 refine au [61,77,25,12] ?_
 exact qs (none,0)
 intro _
 refine au [108] ?_
 refine qn (vs:=[]) (ys:=([]:qyo)) (qp .u8) (by decide) rfl UnF.u inferInstance rfl rfl rfl rfl rfl (by decide) ?_
 intro a6 c7
 refine au [1,30,8] ?_
 intro x8 e8 a9 c10
 refine au [64] ?_
 exact qs (a9,c10)
theorem qm7 {F:Nat}{x1:Int}{x2:qyo}{a3:qyp}{c4:Nat}{r:(Int×qyo)}(hm:qdK F x1 x2=some r) :
    PureM Tryz.prog 184 [.agg #[qyq x1,.slice a3 x2.length c4]] [] [] [Sl (eI .u8) 1 (.slice a3 x2.length c4) x2] ((qyp×Nat)×Nat) (fun g=>.pointer (some ⟨g.2,0,none⟩)) (fun g=>[⟨g.2,172,[qyq r.1,.slice g.1.1 r.2.length g.1.2]⟩]) (fun g=>[Ro (eI .u8) 5 1 (.slice g.1.1 r.2.length g.1.2) r.2]):=by
 refine zw Tryz.func184 rfl Tryz.ntmps184 rfl hm (fun w=>?_)
 refine au [25,9,82] ?_
 intro g5
 refine au [60,3] ?_
 refine qy mixed [] [⟨g5,25,[qyq x1,.slice a3 x2.length c4]⟩] [Sl (eI .u8) 1 (.slice a3 x2.length c4) x2] (.cons 0 rfl .nil) (qt 0 rfl qw) 9 rfl ?_
 refine au [100,24,0,2,25,2,3,20,4] ?_
 refine qg qeg ?_
 rintro x10 e10 ⟨a11,c12⟩
 refine au [0,30,11] ?_
 refine qm 5 (.agg #[qyq x1,.slice a11 x10.length c12]) rfl rfl rfl (qdr (cells:=[qyq x1,.slice a11 x10.length c12]) st25 rfl (by kernel_rfl)) (qm 6 (.agg #[qyq x1,.slice a11 x10.length c12]) rfl rfl rfl (qdr (cells:=[qyq x1,.slice a11 x10.length c12]) st172 rfl (by kernel_rfl)) ?_)
 refine au [20,7,24,1] ?_
 intro g13
 refine au [0,26,1,7,8,24,8] ?_
 refine qx ?_ (by intro c h;cases h)
 refine au [2,9] ?_
 exact zy ((a11,c12),g13)
theorem qpz {F:Nat}{x1:Int}{x2:qyo}{a3:qyp}{c4:Nat}{x5:Int}{r:Int}(hm:vN F x1 x2 x5=some r) :
    Pure Tryz.prog 187 [.agg #[qyq x1,.slice a3 x2.length c4],qyq x5] [Sl (eI .u8) 1 (.slice a3 x2.length c4) x2] Unit (fun _=>.int .u64 r) (fun _=>[]) (fun _=>[]):=by
 refine ql Tryz.func187 rfl Tryz.ntmps187 rfl hm (fun w=>?_)
 refine au [94] ?_
 intro g6
 refine au [79,73,1,30,12] ?_
 refine qbL (j:=0) (qp .u8) (by decide) rfl UnF.u inferInstance rfl rfl rfl rfl ?_
 intro x7 e7 b8 o9
 refine au [25,14,1,33,3,25,7,25,13] ?_
 intro h10
 refine qgP rfl rfl rfl rfl h10 ?_
 refine au [25,11,29,7,5,26,13] ?_
 intro x11 e11
 refine qc (d:=4) (v:=.int .u64 x11) rfl (by rw[e11] <;> rfl) ?_
 exact az [59,9,18]
theorem qhG (F:Nat){σ τ:Type}{J:Rounds σ τ}{yy:σ→Int→Option (σ ⊕ τ)}{L:Nat}(hY:YieldC Tryz.prog L (fun (p:Int)=>[.int .u64 p]) J yy)(s0:σ)(gs0:J.γ)(g1:Nat)(x2:Int)(g3:Nat)(x4:Int)(g5:Nat)(x6:Int)(x7:qyo)(a8:qyp)(c9:Nat)(r:σ ⊕ τ)(hm:qdt F yy x2 x4 x6 x7 s0=some r) :
    PureM Tryz.prog 186 ([.func (.yield L) #[] #[],.pointer (some ⟨g1,0,none⟩),.pointer (some ⟨g3,0,none⟩),.pointer (some ⟨g5,0,none⟩)]) ([⟨g1,3,[qyq x2]⟩,⟨g3,3,[qyq x4]⟩,⟨g5,25,[qyq x6,.slice a8 x7.length c9]⟩]++J.IB s0 gs0) (J.IR s0 gs0) [J.F,Sl (eI .u8) 1 (.slice a8 x7.length c9) x7] (J.G r) (fun _=>.tuple #[]) (fun g=>[⟨g1,3,[qyq x2]⟩,⟨g3,3,[qyq x4]⟩,⟨g5,25,[qyq x6,.slice a8 x7.length c9]⟩]++J.bs r g) (fun g=>J.rs r g):=by
 refine zw Tryz.func186 rfl Tryz.ntmps186 rfl hm (fun w=>?_)
 refine au [27,9,61,22,60,19] ?_
 refine qdG (fun (((x22,x23),g24):((Int×σ)×J.γ))=>[(0,.func (.yield L) #[] #[]),(2,.pointer (some ⟨g3,0,none⟩)),(3,.pointer (some ⟨g5,0,none⟩)),(5,qyq x22)]) (fun (((x22,x23),g24):((Int×σ)×J.γ))=>[⟨g1,3,[qyq x2]⟩,⟨g3,3,[qyq x4]⟩,⟨g5,25,[qyq x6,.slice a8 x7.length c9]⟩]++J.IB x23 g24) (fun (((x22,x23),g24):((Int×σ)×J.γ))=>[]++J.IR x23 g24) (fun (((x22,x23),g24):((Int×σ)×J.γ))=>[Sl (eI .u8) 1 (.slice a8 x7.length c9) x7,J.F]) (fun k (s:((Int×σ)×J.γ))=>zO F yy x4 x6 x7 k s.1) ((x2,s0),gs0) F ?_ (hB:=(.cons 0 rfl (.cons 0 rfl (.cons 0 rfl (qE 0 rfl))))) (hR:=(qE 0 rfl)) (hF:=(qj 1 rfl (qj 0 rfl zA)))
 intro k37
 rintro ⟨⟨x22,x23⟩,g24⟩
 try dsimp only
 refine qB (m':=ji F yy x4 x6 x7 (zO F yy x4 x6 x7 k37) x22 x23) rfl ?_
 refine av [83,25,6,101] ?_ ?_
 intro _
 refine au [74,3,19,62,26,2,1,27,10] ?_
 intro x44 e44 _
 refine qhm hY x23 x44 g24 (B1:=[⟨g1,3,[qyq x2]⟩,⟨g3,3,[qyq x4]⟩,⟨g5,25,[qyq x6,.slice a8 x7.length c9]⟩]) (R1:=[]) (j:=1) rfl rfl rfl rfl rfl rfl rfl (fun x45 _ g47=>?_) (fun x46 _ g47=>?_)
 refine au [25,1,59] ?_
 refine qaS (b:=false) rfl (fun h=>by cases h) (fun _=>?_)
 refine au [13,78,4,1,23,5,0] ?_
 exact qd4 ((iadd .i64 x22 1,x45),g47) (hB:=(.cons 0 rfl (.cons 0 rfl (.cons 0 rfl (qE 0 rfl))))) (hR:=(qE 0 rfl)) (hF:=(qj 0 rfl (qj 1 rfl zA)))
 refine au [25,1,59] ?_
 refine qaS (b:=true) rfl (fun _=>?_) (fun h=>by cases h)
 refine au [9,128,24,7] ?_
 exact qdI (B0:=[⟨g1,3,[qyq x2]⟩,⟨g3,3,[qyq x4]⟩,⟨g5,25,[qyq x6,.slice a8 x7.length c9]⟩]) (x:=.inr x46) g47 (.inl rfl) (res0 rfl) (.cons 0 rfl (.cons 0 rfl (.cons 0 rfl (qE 0 rfl)))) (qE 0 rfl)
 intro _
 refine au [87] ?_
 exact qdI (B0:=[⟨g1,3,[qyq x2]⟩,⟨g3,3,[qyq x4]⟩,⟨g5,25,[qyq x6,.slice a8 x7.length c9]⟩]) (x:=.inl x23) g24 (.inr rfl) (res0 rfl) (.cons 0 rfl (.cons 0 rfl (.cons 0 rfl (qE 0 rfl)))) (qE 0 rfl)
set_option maxHeartbeats 4000000 in
theorem qlC {F:Nat}{x1:Int}{x2:qyo}{a3:qyp}{c4:Nat}{x5:Int}{x6:qyo}{a7:qyp}{c8:Nat}{r:(Int×qyo)}(hm:jb F x1 x2 x5 x6=some r) :
    PureM Tryz.prog 112 [.agg #[qyq x1,.slice a3 x2.length c4],.agg #[qyq x5,.slice a7 x6.length c8]] [] [] [Sl (eI .u8) 1 (.slice a3 x2.length c4) x2,Sl (eI .u8) 1 (.slice a7 x6.length c8) x6] (qyp×Nat) (fun g=>.agg #[qyq r.1,.slice g.1 r.2.length g.2]) (fun _=>[]) (fun g=>[Ro (eI .u8) 5 1 (.slice g.1 r.2.length g.2) r.2]):=by
 refine qiA Tryz.func112 rfl Tryz.ntmps112 rfl hm (fun w=>?_)
 refine au [94] ?_
 intro g9
 refine au [24,1] ?_
 intro g10
 refine au [24,9] ?_
 intro g11
 refine au [59,61,26,2,33,7] ?_
 rintro x12 e12 ⟨⟨a13,c14⟩,g15⟩
 refine au [24,9] ?_
 intro g16
 refine au [97,3,61,28,11,12,28,12] ?_
 refine qW qji ?_
 rintro x37 e37 ⟨g38,g39,g40⟩
 refine au [109] ?_
 refine qhj (encs:=(fun (p:Int)=>[.int .u64 p])) (y:=(fun ((x45,x48):(Int×qyo)) (x53:Int)=>qaC F x45 x48 x53)) (lb:=[.pointer (some ⟨g38,0,none⟩),.pointer (some ⟨g39,0,none⟩),.pointer (some ⟨g40,0,none⟩)]) (fun ((x45,x48):(Int×qyo)) ((a46,c47):(qyp×Nat))=>[⟨g16,170,[.pointer (some ⟨g15,0,none⟩)]⟩,⟨g15,172,[qyq x45,.slice a46 x48.length c47]⟩,⟨g11,25,[qyq 0,.slice none 0 0]⟩,⟨g10,25,[qyq x5,.slice a7 x6.length c8]⟩,⟨g9,25,[qyq x1,.slice a3 x2.length c4]⟩]) (fun ((x45,x48):(Int×qyo)) ((a46,c47):(qyp×Nat))=>[Ro (eI .u8) 5 1 (.slice a46 x48.length c47) x48]) (fun (_:Empty) (_:Unit)=>[]) (fun (_:Empty) (_:Unit)=>[]) (fun _=>.skip) (x12.1,x12.2) (a13,c14) rfl ent186 (fun _=>rfl) rfl (.cons 0 rfl (.cons 0 rfl (.cons 0 rfl .nil))) (.cons 0 rfl (.cons 0 rfl (.cons 0 rfl (.cons 0 rfl (.cons 0 rfl .nil))))) (.cons 0 rfl .nil) (.consF 1 rfl .nil) (fun z hz _ _ _ hY=>qhG F hY (x12.1,x12.2) (a13,c14) g38 0 g39 x5 g40 x5 x6 a7 c8 z hz) ?_ ?_ ?_
 rintro rc1 L1 D1 ⟨x45,x48⟩ ⟨a46,c47⟩ x53 z w M _
 try dsimp only
 refine qiY [(0,.agg #[qyq x1,.slice a3 x2.length c4]),(1,.agg #[qyq x5,.slice a7 x6.length c8]),(2,.pointer (some ⟨g9,0,none⟩)),(3,.pointer (some ⟨g10,0,none⟩)),(4,.pointer (some ⟨g11,0,none⟩)),(5,.pointer (some ⟨g16,0,none⟩)),(7,.agg #[qyq x1,.slice a3 x2.length c4]),(8,.pointer (some ⟨g15,0,none⟩)),(9,.agg #[qyq x5,.slice a7 x6.length c8]),(10,.pointer (some ⟨g10,0,none⟩)),(11,qyq x5),(12,.func (.func 186) #[] #[.pointer (some ⟨g38,0,none⟩),.pointer (some ⟨g39,0,none⟩),.pointer (some ⟨g40,0,none⟩)]),(13,.int .u64 x53)] (zm rfl (zm rfl (zm rfl (zm rfl (zm rfl (zm rfl (zm rfl (zm rfl (zm rfl (zm rfl (zm rfl (zm rfl (zm rfl qf5))))))))))))) ?_
 refine au [4,5,0] ?_
 refine qhn (i:=5) rfl ?_
 refine au [19,4,22,1,33,8] ?_
 rintro x54 e54 ⟨a55,c56⟩
 refine au [0,24,10] ?_
 exact qeB (rc:=rc1) rfl (.cons 5 rfl .nil) rfl (a55,c56) (.cons 2 rfl (.cons 1 rfl (.cons 1 rfl (.cons 1 rfl (.cons 1 rfl (.cons 0 rfl (.cons 0 rfl .nil))))))) (.cons 0 rfl .nil)
 rintro ⟨x45,x48⟩ _ ⟨a46,c47⟩ D1
 try dsimp only
 refine au [78,61] ?_
 refine ka (i:=4) rfl rfl inferInstance rfl rfl (fun _=>rfl) rfl rfl ?_
 refine au [96] ?_
 refine ka (i:=5) rfl rfl inferInstance rfl rfl (by simp) rfl rfl (yQ (i:=6) rfl rfl rfl inferInstance rfl rfl rfl rfl rfl ?_)
 refine au [59,9] ?_
 exact qfD [D1] (a46,c47) (.inl rfl) rfl (.cons 0 rfl .nil) (resL (rs:=[.cell 4 25]) rfl (.cell (i:=5) rfl tf25 rfl rfl (by simp) rfl ResOk.nil) rfl) (fun h=>by subst h;rfl) (fun h=>by subst h;exact .nil) (fun h=>by subst h;exact (.cons 0 rfl .nil))
 intro t;exact t.elim
theorem qe7 {F:Nat}{g1:Nat}{x2:Int}{x3:qyo}{a4:qyp}{c5:Nat}{x6:Int}{x7:Int}{r:(Int×qyo)}(hm:vp F x2 x3 x6 x7=some r) :
    PureM Tryz.prog 185 [.pointer (some ⟨g1,0,none⟩),.int .u64 x6,qyq x7] [⟨g1,172,[qyq x2,.slice a4 x3.length c5]⟩] [Ro (eI .u8) 5 1 (.slice a4 x3.length c5) x3] [] (qyp×Nat) (fun _=>.tuple #[]) (fun g=>[⟨g1,172,[qyq r.1,.slice g.1 r.2.length g.2]⟩]) (fun g=>[Ro (eI .u8) 5 1 (.slice g.1 r.2.length g.2) r.2]):=by
 refine zw Tryz.func185 rfl Tryz.ntmps185 rfl hm (fun w=>?_)
 refine au [25,15,62,25,7,60,19] ?_
 refine qu (fun (((x18,x19,x22),(a20,c21)):((Int×Int×qyo)×(qyp×Nat)))=>([(0,.pointer (some ⟨g1,0,none⟩)),(1,.int .u64 x6),(6,qyq x18)],[⟨g1,172,[qyq x19,.slice a20 x22.length c21]⟩],[Ro (eI .u8) 5 1 (.slice a20 x22.length c21) x22],[])) (fun k (s:((Int×Int×qyo)×(qyp×Nat)))=>zJ F x6 k s.1) ((isub .i64 x7 1,x2,x3),(a4,c5)) F ?_
 intro k33
 rintro ⟨⟨x18,x19,x22⟩,⟨a20,c21⟩⟩
 try dsimp only
 refine qB (m':=zI F x6 (zJ F x6 k33) x18 x19 x22) rfl ?_
 refine av [83,26,7,63] ?_ ?_
 intro _
 refine au [74,3,19,4,1,1,1,25,13] ?_
 intro h39
 refine qgP rfl rfl rfl rfl h39 ?_
 refine au [29,7,33,8] ?_
 rintro x40 e40 ⟨a41,c42⟩
 refine au [0,78,4,1,25,7,5,0] ?_
 exact qr ((isub .i64 x18 1,x40.1,x40.2),(a41,c42))
 intro _
 refine au [87] ?_
 exact zy (a20,c21)
theorem qm6 {F:Nat}{x1:Int}{x2:qyo}{a3:qyp}{c4:Nat}{x5:Int}{x6:Int}{r:(Int×qyo)}(hm:yJ F x1 x2 x5 x6=some r) :
    Pure Tryz.prog 111 [.agg #[qyq x1,.slice a3 x2.length c4],.int .u64 x5,qyq x6] [Sl (eI .u8) 1 (.slice a3 x2.length c4) x2] (qyp×Nat) (fun g=>.agg #[qyq r.1,.slice g.1 r.2.length g.2]) (fun g=>[Ro (eI .u8) 5 1 (.slice g.1 r.2.length g.2) r.2]) (fun _=>[]):=by
 refine ql Tryz.func111 rfl Tryz.ntmps111 rfl hm (fun w=>?_)
 refine au [106] ?_
 intro g7
 refine au [24,9] ?_
 intro g8
 refine au [59,61,25,4,33,7] ?_
 rintro x9 e9 ⟨⟨a10,c11⟩,g12⟩
 refine au [75,1,1] ?_
 refine qW qe7 ?_
 rintro x13 e13 ⟨a14,c15⟩
 refine au [59,62,96,24,4,25,8,59,9] ?_
 exact qF (a14,c15) (resL (rs:=[.cell 6 25]) rfl (.cell (i:=1) rfl tf25 rfl rfl (by simp) rfl ResOk.nil) rfl) (fun h=>by subst h;exact (.cons 0 rfl .nil))
theorem qlS {F:Nat}{x1:Int}{r:(Int×qyo)}(hm:qdq F x1=some r) :
    Pure Tryz.prog 115 [.int .u64 x1] [] (qyp×Nat) (fun g=>.agg #[qyq r.1,.slice g.1 r.2.length g.2]) (fun g=>[Ro (eI .u8) 5 1 (.slice g.1 r.2.length g.2) r.2]) (fun _=>[]):=by
 refine ql Tryz.func115 rfl Tryz.ntmps115 rfl hm (fun w=>?_)
 refine au [116,24,9] ?_
 intro g2
 refine au [59,62,25,11,1,23,30,12] ?_
 refine qss (qp .u8) rfl UnF.u inferInstance rfl rfl rfl rfl rfl rfl rfl ?_
 intro x3 e3 a4 c5
 refine qo (cells:=[qyq (iconv .i64 x1),.slice a4 x3.length c5]) rfl st25 rfl (by kernel_rfl) rfl ?_
 refine au [27,11] ?_
 rintro x6 e6 ⟨a7,c8⟩
 refine au [97,9] ?_
 exact qF (a7,c8) (resL (rs:=[.cell 2 25]) rfl (.cell (i:=0) rfl tf25 rfl rfl (by simp) rfl ResOk.nil) rfl) (fun h=>by subst h;exact (.cons 0 rfl .nil))
set_option maxHeartbeats 4000000 in
theorem qgi {F:Nat}{x1:Int}{r:Int}(hm:yj F x1=some r) :
    Pure Tryz.prog 228 [.int .u64 x1] [] Unit (fun _=>qyq r) (fun _=>[]) (fun _=>[]):=by
 refine ql Tryz.func228 rfl Tryz.ntmps228 rfl hm (fun w=>?_)
 refine au [116,60] ?_
 refine qh (fun (((x3,x4),_):((Int×Int)×Unit))=>([(0,.int .u64 x3),(2,qyq x4)],[],[],[],k7 F x3 x4)) ?_ ?_
 refine av [62,26,7,63] ?_ ?_
 intro _
 refine au [62,27,14,60,4,5,0] ?_
 exact qb ((ishr .u64 x1 32,(32:Int)),())
 intro _
 refine au [13] ?_
 exact qb ((x1,(0:Int)),())
 rintro ⟨⟨x3,x4⟩,_⟩
 try dsimp only
 refine qh (fun (((x6,x7),_):((Int×Int)×Unit))=>([(0,.int .u64 x6),(2,qyq x7)],[],[],[],k8 F x6 x7)) ?_ ?_
 refine av [62,26,7,63] ?_ ?_
 intro _
 refine au [62,27,14,60,4,1,23,5,0] ?_
 exact qb ((ishr .u64 x3 16,iadd .i64 x4 16),())
 intro _
 refine au [13] ?_
 exact qb ((x3,x4),())
 rintro ⟨⟨x6,x7⟩,_⟩
 try dsimp only
 refine qh (fun (((x9,x10),_):((Int×Int)×Unit))=>([(0,.int .u64 x9),(2,qyq x10)],[],[],[],k9 F x9 x10)) ?_ ?_
 refine av [62,26,7,63] ?_ ?_
 intro _
 refine au [62,27,14,60,4,1,23,5,0] ?_
 exact qb ((ishr .u64 x6 8,iadd .i64 x7 8),())
 intro _
 refine au [13] ?_
 exact qb ((x6,x7),())
 rintro ⟨⟨x9,x10⟩,_⟩
 try dsimp only
 refine au [62,1,25,11] ?_
 refine qnS (xs:=([0,1,2,2,3,3,3,3,4,4,4,4,4,4,4,4,5,5,5,5,5,5,5,5,5,5,5,5,5,5,5,5,6,6,6,6,6,6,6,6,6,6,6,6,6,6,6,6,6,6,6,6,6,6,6,6,6,6,6,6,6,6,6,6,7,7,7,7,7,7,7,7,7,7,7,7,7,7,7,7,7,7,7,7,7,7,7,7,7,7,7,7,7,7,7,7,7,7,7,7,7,7,7,7,7,7,7,7,7,7,7,7,7,7,7,7,7,7,7,7,7,7,7,7,7,7,7,7,8,8,8,8,8,8,8,8,8,8,8,8,8,8,8,8,8,8,8,8,8,8,8,8,8,8,8,8,8,8,8,8,8,8,8,8,8,8,8,8,8,8,8,8,8,8,8,8,8,8,8,8,8,8,8,8,8,8,8,8,8,8,8,8,8,8,8,8,8,8,8,8,8,8,8,8,8,8,8,8,8,8,8,8,8,8,8,8,8,8,8,8,8,8,8,8,8,8,8,8,8,8,8,8,8,8,8,8,8,8,8,8,8,8,8,8,8,8,8,8,8,8,8,8,8,8,8,8]:qyo)) rfl UnF.u rfl rfl (by kernel_rfl) rfl ?_
 intro x11 e11
 exact az [25,11,23,85]
theorem qh2 {F:Nat}{x1:Int}{r:(Int×Int)}(hm:qaJ F x1=some r) :
    Pure Tryz.prog 190 [.int .u64 x1] [] Unit (fun _=>.tuple #[qyq r.1,.int .u64 r.2]) (fun _=>[]) (fun _=>[]):=by
 refine ql Tryz.func190 rfl Tryz.ntmps190 rfl hm (fun w=>?_)
 refine au [116,5,75,25,7,30,13] ?_
 intro x2 e2 _
 refine au [60,3,27,8] ?_
 intro h6
 refine qy mixed [] [] [] .nil qw 7 rfl ?_
 refine au [88] ?_
 refine qm 2 (.int .u64 (ishl .u64 1 x2)) rfl rfl rfl (qga rfl rfl h6) ?_
 refine au [7,3,115,7,6,24,8] ?_
 refine qx ?_ (by intro c h;cases h)
 exact az [2,9,18]
theorem qgh {F:Nat}{x1:Int}{x2:qyo}{a3:qyp}{c4:Nat}{x5:Int}{x6:Int}{r:(Int×qyo)}(hm:qah F x1 x2 x5 x6=some r) :
    Pure Tryz.prog 119 [.agg #[qyq x1,.slice a3 x2.length c4],.int .u64 x5,.int .u64 x6] [Sl (eI .u8) 1 (.slice a3 x2.length c4) x2] (qyp×Nat) (fun g=>.agg #[qyq r.1,.slice g.1 r.2.length g.2]) (fun g=>[Ro (eI .u8) 5 1 (.slice g.1 r.2.length g.2) r.2]) (fun _=>[]):=by
 refine ql Tryz.func119 rfl Tryz.ntmps119 rfl hm (fun w=>?_)
 refine au [106] ?_
 intro g7
 refine au [24,9] ?_
 intro g8
 refine au [59,62,33,9] ?_
 intro x9 e9 _
 refine av [80,5,93,1,101] ?_ ?_
 intro _
 refine au [61,25,4,1,1,25,7,27,11] ?_
 rintro x14 e14 ⟨a15,c16⟩
 refine au [97,9,14] ?_
 exact qF (a15,c16) (resL (rs:=[.cell 6 25]) rfl (.cell (i:=0) rfl tf25 rfl rfl (by simp) rfl ResOk.nil) rfl) (fun h=>by subst h;exact (.cons 0 rfl .nil))
 intro _
 refine au [108,25,4,1,1,23,1,27,11] ?_
 rintro x17 e17 ⟨a18,c19⟩
 refine au [97,9] ?_
 exact qF (a18,c19) (resL (rs:=[.cell 6 25]) rfl (.cell (i:=0) rfl tf25 rfl rfl (by simp) rfl ResOk.nil) rfl) (fun h=>by subst h;exact (.cons 0 rfl .nil))
theorem qjl {F:Nat}{x1:Int}{x2:Int}{r:(Int×Int×Int)}(hm:qdc F x1 x2=some r) :
    Pure Tryz.prog 211 [.int .u64 x1,qyq x2] [] Unit (fun _=>.tuple #[qyq r.1,.int .u64 r.2.1,.int .u64 r.2.2]) (fun _=>[]) (fun _=>[]):=by
 refine ql Tryz.func211 rfl Tryz.ntmps211 rfl hm (fun w=>?_)
 refine au [69,5,5,75,23,30,13] ?_
 intro x3 e3 _
 refine au [25,7,1,25,13] ?_
 intro h4
 refine qhR rfl rfl rfl rfl h4 ?_
 refine au [60,3,27,8] ?_
 intro h11
 refine au [27,8] ?_
 intro h13
 refine qy mixed [] [] [] .nil qw 14 rfl ?_
 refine au [88,7,2,7,3] ?_
 refine qm 4 (.int .u64 (ishl .u64 1 (imul .i64 (iquo .i64 (isub .i64 x3 1) x2) x2))) rfl rfl rfl (qga rfl rfl h11) ?_
 refine au [7,5,7,6,7,7,7,8,7,9] ?_
 refine qm 10 (.int .u64 (ishl .u64 1 (iadd .i64 (imul .i64 (iquo .i64 (isub .i64 x3 1) x2) x2) x2))) rfl rfl rfl (qga rfl rfl h13) ?_
 refine au [7,11,112,24,8] ?_
 refine qx ?_ (by intro c h;cases h)
 exact az [2,9,18]
set_option maxHeartbeats 4000000 in
theorem qjk {F:Nat}{x1:Int}{x2:Int}{r:(Int×qyo×Int)}(hm:qdb F x1 x2=some r) :
    Pure Tryz.prog 145 [.int .u64 x1,qyq x2] [] (qyp×Nat) (fun g=>.tuple #[.agg #[qyq r.1,.slice g.1 r.2.1.length g.2],qyq r.2.2]) (fun g=>[Ro (eI .u8) 5 1 (.slice g.1 r.2.1.length g.2) r.2.1]) (fun _=>[]):=by
 refine ql Tryz.func145 rfl Tryz.ntmps145 rfl hm (fun w=>?_)
 refine au [69,24,9] ?_
 intro g3
 refine au [93,125] ?_
 refine qk 3 (decide (x2<1)) [(0,.int .u64 x1),(1,qyq x2),(4,.pointer (some ⟨g3,0,none⟩)),(14,.bool ((decide (x2<1)) || (decide (16<x2))))] (fun h7=>?_) (fun h7=>?_) ?_
 refine qa (os:=_) rfl (qf (k:=11) rfl h7 ?_)
 refine au [66,16] ?_
 refine qc (d:=14) (v:=.bool ((decide (x2<1)) || (decide (16<x2)))) rfl (by rw[h7];simp only[qv4]) ?_
 exact az [68]
 refine qa (os:=_) rfl (qe (k:=11) rfl h7 ?_)
 refine au [1,92] ?_
 refine qc (d:=14) (v:=.bool ((decide (x2<1)) || (decide (16<x2)))) rfl (by rw[h7];simp only[qv2]) ?_
 exact az [68]
 refine qa (os:=_) rfl ?_
 refine au [1] ?_
 refine qk 3 ((decide (x2<1)) || (decide (16<x2))) [(0,.int .u64 x1),(1,qyq x2),(4,.pointer (some ⟨g3,0,none⟩)),(18,.bool (((decide (x2<1)) || (decide (16<x2))) || (decide (1099511627776<x1))))] (fun h8=>?_) (fun h8=>?_) ?_
 refine qa (os:=_) rfl (qf (k:=15) rfl h8 ?_)
 refine au [66,16] ?_
 refine qc (d:=18) (v:=.bool (((decide (x2<1)) || (decide (16<x2))) || (decide (1099511627776<x1)))) rfl (by rw[h8];simp only[qv4]) ?_
 exact az [68]
 refine qa (os:=_) rfl (qe (k:=15) rfl h8 ?_)
 refine au [1,92] ?_
 refine qc (d:=18) (v:=.bool (((decide (x2<1)) || (decide (16<x2))) || (decide (1099511627776<x1)))) rfl (by rw[h8];simp only[qv2]) ?_
 exact az [68]
 refine qa (os:=_) rfl ?_
 refine av [63] ?_ ?_
 intro _
 refine au [61] ?_
 refine qo (cells:=[qyq 0,.slice none 0 0]) rfl st25 rfl (by kernel_rfl) rfl ?_
 refine au [24,3,77,25,12] ?_
 exact qF (none,0) (resL (rs:=[.cell 4 25,.tmp 5]) rfl (.cell (i:=0) rfl tf25 rfl rfl (by simp) rfl (.tmp rfl ResOk.nil)) rfl) (fun h=>by subst h;exact (.cons 0 rfl .nil))
 intro _
 refine au [74,62,1] ?_
 refine qg qjl ?_
 intro x9 e9 _
 refine au [80,10,5,5,75,25,11,33,10] ?_
 rintro x10 e10 ⟨a11,c12⟩
 refine au [1,23,1,25,7,1,1,25,7] ?_
 refine qg qgh ?_
 rintro x13 e13 ⟨a14,c15⟩
 refine au [24,3,64] ?_
 exact qF (a14,c15) (resL (rs:=[.cell 4 25,.tmp 5]) rfl (.cell (i:=0) rfl tf25 rfl rfl (by simp) rfl (.tmp rfl ResOk.nil)) rfl) (fun h=>by subst h;exact (.cons 0 rfl .nil))
set_option maxHeartbeats 4000000 in
theorem qm9 {F:Nat}{x1:Int}{x2:qyo}{a3:qyp}{c4:Nat}{x5:qyo}{a6:qyp}{c7:Nat}{x8:Int}{r:(Int×qyo×Bool)}(hm:qaH F x1 x2 x5 x8=some r) :
    PureM Tryz.prog 69 [.agg #[qyq x1,.slice a3 x2.length c4],.slice a6 x5.length c7,qyq x8] [] [Ro (eI .u8) 5 1 (.slice a3 x2.length c4) x2] [Sl (eI .u64) 1 (.slice a6 x5.length c7) x5] (qyp×Nat) (fun g=>.tuple #[.agg #[qyq r.1,.slice g.1 r.2.1.length g.2],.bool r.2.2]) (fun _=>[]) (fun g=>[Ro (eI .u8) 5 1 (.slice g.1 r.2.1.length g.2) r.2.1]):=by
 refine zw Tryz.func69 rfl Tryz.ntmps69 rfl hm (fun w=>?_)
 refine au [106] ?_
 intro g9
 refine au [24,9] ?_
 intro g10
 refine au [60] ?_
 refine qh (fun (((x0,x3),(a0,c0)):((Int×qyo)×(qyp×Nat)))=>([(3,.pointer (some ⟨g9,0,none⟩)),(6,.pointer (some ⟨g10,0,none⟩))],[⟨g10,25,[qyq 0,.slice none 0 0]⟩,⟨g9,25,[qyq x0,.slice a0 x3.length c0]⟩],[Ro (eI .u8) 5 1 (.slice a0 x3.length c0) x3],[],qfJ F x0 x3)) ?_ ?_
 refine au [124] ?_
 refine qu (fun (((x4,x6,x7),(a1,c1)):((Int×Int×qyo)×(qyp×Nat)))=>([(2,qyq x8),(3,.pointer (some ⟨g9,0,none⟩)),(6,.pointer (some ⟨g10,0,none⟩)),(12,.slice a6 x5.length c7),(13,qyq (x5.length:Int)),(14,qyq x4)],[⟨g10,25,[qyq 0,.slice none 0 0]⟩,⟨g9,25,[qyq x6,.slice a1 x7.length c1]⟩],[Ro (eI .u8) 5 1 (.slice a1 x7.length c1) x7],[Sl (eI .u64) 1 (.slice a6 x5.length c7) x5])) (fun k (s:((Int×Int×qyo)×(qyp×Nat)))=>jO F x5 x8 k s.1) ((0,x1,x2),(a3,c4)) F ?_
 intro k0
 rintro ⟨⟨x4,x6,x7⟩,⟨a1,c1⟩⟩
 try dsimp only
 refine qB (m':=qc9 F x5 x8 (jO F x5 x8 k0) x4 x6 x7) rfl ?_
 refine av [118] ?_ ?_
 intro _
 refine au [74,3,19,61,33,1] ?_
 intro x9 e0 b0 o0
 refine au [25,14,75,1] ?_
 refine qg qjk ?_
 rintro x10 e1 ⟨a2,c2⟩
 refine au [95] ?_
 intro g0
 refine au [24,3,93,25,0,1] ?_
 refine qk 7 ((x10.2.2:Int) != 0) [(2,qyq x8),(3,.pointer (some ⟨g9,0,none⟩)),(6,.pointer (some ⟨g10,0,none⟩)),(12,.slice a6 x5.length c7),(13,qyq (x5.length:Int)),(14,qyq x4),(10,.pointer (some ⟨g0,0,none⟩)),(33,.bool (((x10.2.2:Int) != 0) || (decide (8192<(iadd .i64 x6 x10.1)))))] (fun h0=>?_) (fun h0=>?_) ?_
 refine qa (os:=_) rfl (qf (k:=26) rfl h0 ?_)
 refine au [72,66,16] ?_
 refine qc (d:=33) (v:=.bool (((x10.2.2:Int) != 0) || (decide (8192<(iadd .i64 x6 x10.1))))) rfl (by rw[h0];simp only[qv4]) ?_
 exact az [68]
 refine qa (os:=_) rfl (qe (k:=26) rfl h0 ?_)
 refine au [12,27,15,73,23,92] ?_
 refine qc (d:=33) (v:=.bool (((x10.2.2:Int) != 0) || (decide (8192<(iadd .i64 x6 x10.1))))) rfl (by rw[h0];simp only[qv2]) ?_
 exact az [68]
 refine qa (os:=_) rfl ?_
 refine av [63] ?_ ?_
 intro _
 refine au [61] ?_
 refine qo (cells:=[qyq 0,.slice none 0 0]) rfl st25 rfl (by kernel_rfl) rfl ?_
 refine au [25,8,77,129,25,12] ?_
 exact yI (none,0) (resL (rs:=[.cell 6 25,.tmp 7]) rfl (.cell (i:=1) rfl tf25 rfl rfl (by simp) rfl (.tmp rfl ResOk.nil)) rfl) (hR:=fun h=>by subst h;exact (.cons 0 rfl .nil))
 intro _
 refine au [74,4,26,2,24,4,29,10] ?_
 rintro x11 e2 ⟨a4,c3⟩
 refine au [27,0,0,78,4,23,1,0] ?_
 exact qr ((iadd .i64 x4 1,x11.1,x11.2),(a4,c3))
 intro _
 refine au [87] ?_
 exact qb ((x6,x7),(a1,c1))
 rintro ⟨⟨x0,x3⟩,⟨a0,c0⟩⟩
 try dsimp only
 refine au [61,25,4,24,3,64] ?_
 exact yI (a0,c0) (resL (rs:=[.cell 6 25,.tmp 7]) rfl (.cell (i:=0) rfl tf25 rfl rfl (by simp) rfl (.tmp rfl ResOk.nil)) rfl) (hR:=fun h=>by subst h;exact (.cons 0 rfl .nil))
set_option maxHeartbeats 4000000 in
theorem qge (F:Nat)(x1:qyo)(a2:qyp)(c3:Nat)(x4:Int)(x5:Int)(r:(Int×qyo×Int))(hm:qb5 F x1 x4 x5=some r) :
    Pure Tryz.prog 9 [.slice a2 x1.length c3,qyq x4,qyq x5] [Sl (eI .i64) 1 (.slice a2 x1.length c3) x1] (qyp×Nat) (fun g=>.tuple #[.agg #[qyq r.1,.slice g.1 r.2.1.length g.2],qyq r.2.2]) (fun g=>[Ro (eI .u8) 5 1 (.slice g.1 r.2.1.length g.2) r.2.1]) (fun _=>[]):=by
 refine ql Tryz.func9 rfl Tryz.ntmps9 rfl hm (fun w=>?_)
 refine au [25,15,61,24,9] ?_
 intro g6
 refine au [75,1,30,14] ?_
 rintro x7 e7 ⟨a8,c9⟩
 refine au [80,5,60] ?_
 refine qh (fun ((x15,_):(Int×Unit))=>([(2,qyq x5),(6,.pointer (some ⟨g6,0,none⟩)),(8,.slice a8 x7.1.length c9),(9,qyq x15)],[⟨g6,25,[qyq 0,.slice none 0 0]⟩],[Ro (eI .u64) 80 1 (.slice a8 x7.1.length c9) x7.1],[],jy F x5 x7 x15)) ?_ ?_
 refine au [98,1] ?_
 refine qq 7 (fun ((x26,_):(Bool×Unit))=>([(2,qyq x5),(6,.pointer (some ⟨g6,0,none⟩)),(8,.slice a8 x7.1.length c9),(9,qyq x7.2),(27,.bool x26)],[⟨g6,25,[qyq 0,.slice none 0 0]⟩],[Ro (eI .u64) 80 1 (.slice a8 x7.1.length c9) x7.1],[],jz F x5 x7 x26)) ?_ ?_
 refine qa (os:=_) rfl ?_
 refine av [24,12] ?_ ?_
 intro h24
 refine qf (k:=20) rfl h24 ?_
 refine au [1,125] ?_
 refine qk 3 (decide (x5<1)) [(2,qyq x5),(6,.pointer (some ⟨g6,0,none⟩)),(8,.slice a8 x7.1.length c9),(9,qyq x7.2),(20,.bool true),(26,.bool ((decide (x5<1)) || (decide (16<x5))))] (fun h28=>?_) (fun h28=>?_) ?_
 refine qa (os:=_) rfl (qf (k:=23) rfl h28 ?_)
 refine au [66,16] ?_
 refine qc (d:=26) (v:=.bool ((decide (x5<1)) || (decide (16<x5)))) rfl (by rw[h28];simp only[qv4]) ?_
 exact az [68]
 refine qa (os:=_) rfl (qe (k:=23) rfl h28 ?_)
 refine au [1,92] ?_
 refine qc (d:=26) (v:=.bool ((decide (x5<1)) || (decide (16<x5)))) rfl (by rw[h28];simp only[qv2]) ?_
 exact az [68]
 refine qa (os:=_) rfl ?_
 refine au [16,0] ?_
 exact qb (((decide (x5<1)) || (decide (16<x5))),())
 intro h24
 refine qe (k:=20) rfl h24 ?_
 refine au [72,90,0] ?_
 exact qb (false,())
 rintro ⟨x26,_⟩
 try dsimp only
 refine qa (os:=_) rfl ?_
 refine av [63] ?_ ?_
 intro _
 refine au [4,5,0] ?_
 exact qb ((3:Int),())
 intro _
 refine au [13] ?_
 exact qb (x7.2,())
 rintro ⟨x15,_⟩
 try dsimp only
 refine av [83,81] ?_ ?_
 intro _
 refine au [61] ?_
 refine qo (cells:=[qyq 0,.slice none 0 0]) rfl st25 rfl (by kernel_rfl) rfl ?_
 refine au [1,24,3,77,25,12] ?_
 exact qF (none,0) (resL (rs:=[.cell 6 25,.tmp 7]) rfl (.cell (i:=0) rfl tf25 rfl rfl (by simp) rfl (.tmp rfl ResOk.nil)) rfl) (fun h=>by subst h;exact (.cons 0 rfl .nil))
 intro _
 refine au [108] ?_
 refine qo (cells:=[qyq 0,.slice none 0 0]) rfl st25 rfl (by kernel_rfl) rfl ?_
 refine au [1,1,26,8,29,11] ?_
 rintro x17 e17 ⟨a18,c19⟩
 refine au [95] ?_
 intro g20
 refine av [24,3,93,25,1,63] ?_ ?_
 intro _
 refine au [61] ?_
 refine qo (cells:=[qyq 0,.slice none 0 0]) rfl st25 rfl (by kernel_rfl) rfl ?_
 refine au [25,8,77,25,12] ?_
 exact qF (none,0) (resL (rs:=[.cell 6 25,.tmp 7]) rfl (.cell (i:=1) rfl tf25 rfl rfl (by simp) rfl (.tmp rfl ResOk.nil)) rfl) (fun h=>by subst h;exact (.cons 0 rfl .nil))
 intro _
 refine au [108,24,4,25,8,64] ?_
 exact qF (a18,c19) (resL (rs:=[.cell 6 25,.tmp 7]) rfl (.cell (i:=1) rfl tf25 rfl rfl (by simp) rfl (.tmp rfl ResOk.nil)) rfl) (fun h=>by subst h;exact (.cons 0 rfl .nil))
theorem qlR {F:Nat}{x1:qyo}{a2:qyp}{c3:Nat}{r:Unit}(hm:qfd F x1=some r) :
    PureM Tryz.prog 159 [.slice a2 x1.length c3] [] [] [Sl (eI .i64) 1 (.slice a2 x1.length c3) x1] Nat (fun g=>.func (.func 217) #[] #[.pointer (some ⟨g,0,none⟩)]) (fun g=>[⟨g,22,[.slice a2 x1.length c3]⟩]) (fun _=>[]):=by
 refine zw Tryz.func159 rfl Tryz.ntmps159 rfl hm (fun w=>?_)
 refine au [25,9,82] ?_
 intro g4
 refine au [79,29,8,64] ?_
 exact zy g4
end Go.Proofs.YtmoikolponkmpaaGreat
