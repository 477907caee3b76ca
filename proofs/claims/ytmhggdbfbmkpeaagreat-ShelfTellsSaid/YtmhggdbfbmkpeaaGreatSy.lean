/- A layer of rules for walking Go code: what a frame's slots hold, what blocks and rows of the heap hold; each rule speaks of a plain model's value: part 3. -/
import Derived.Test.YtmhggdbfbmkpeaaGreatSx
open BitVec renaming ofNat→qyc, ofInt→qye, toNat_ofNat→qyy
open Bool renaming false_eq_true→qxP, false_and→qxW
open Int renaming eq_ofNat_of_zero_le→qxK
open List renaming length_take→qx1, length_map→qyB
open List.cons renaming injEq→qzj
open Nat renaming mod_eq_of_lt→qya
namespace SX
open Go Go.ChangeShapes Go.WideShapes Go.ChangeAt Go.RowKit Go.Joins Go.Deep
variable {H:Type} {enc:TypeId×Value→H} {P:Program}
theorem qqd {W:World}{base n:Nat}{t e e2:TypeId}{k:IntKind}{v:Value}{y:DataW H×List MemPlace}{en:List Int×(Option Addr×Nat)→List Value}{inn:List Int×(Option Addr×Nat)→List (World→Prop)}(henc:EncOk en 1)(hen:∀ p,en p=[.slice p.2.1 p.1.length p.2.2])(hin:∀ p,inn p=[Sl (eI k) 1 (.slice p.2.1 p.1.length p.2.2) p.1])
  (ht:P.underlying t=some (.slice e)) (he:P.underlying e=some (.slice e2)) (he2:P.underlying e2=some (.int k)) (hc1:P.cellsOf e=1) (hc2:P.cellsOf e2=1) (hc:Cell.okWide P W .any base t v)
  (h:DataW.trod enc P W 0 (fun _=>true) true n t [v]=some y) :
  ∃ (a:Option Addr) (cap:Nat) (xs:List (List Int)) (gs:List (Option Addr×Nat)),v=.slice a xs.length cap∧Nec W [] (SlN en inn 1 (.slice a xs.length cap) xs gs)∧(∀ l∈xs,(∀ n∈l,(Lit.int k n).wf=true)∧l.length≤maxLen)∧xs.length≤maxLen:=by
 have o1:Value.okWide P W .any base t v:=by unfold Value.okWide;rw[ht];exact hc
 have vc:v.cells=#[v]:=by
  obtain ⟨a,l,c,rfl⟩:=okWide_slice ht o1
  rfl
 have hopen:∀ n cs y,DataW.trod enc P W 0 (fun _=>true) true n e cs=some y→cs.length=1→∃ x:List Int×(Option Addr×Nat),cs=en x∧(Nec W [] (Sl (eI k) 1 (.slice x.2.1 x.1.length x.2.2) x.1)∧(∀ n∈x.1,(Lit.int k n).wf=true)∧x.1.length≤maxLen):=by
  intro n cs y hy hl
  match cs,hl with
  | [c0],_ =>
   rcases open_ints he he2 hc2 hy with ⟨hcs,_⟩ | ⟨a,len,cap,zs,hcs,_,hle,hmax,hlen,_,hcell,hwf⟩
   ·simp only[qzj,and_true] at hcs
    subst hcs
    exact ⟨([],(none,0)),by rw[hen];rfl,qd9 ⟨⟨none,0,rfl,Nat.le_refl _,by simp,by simp,fun j u hj=>by simp at hj⟩,by simp⟩ (by simp),by simp,by simp⟩
   ·simp only[qzj,and_true] at hcs
    subst hcs
    simp only[if_true] at hlen
    have hL:(zs.take len).length=len:=by rw[qx1];omega
    have hfm:∀ (l:List Int),l.flatMap (eI k)=l.map (fun x=>Value.int k x):=by
     intro l
     induction l with
     | nil=>rfl
     | cons x l ih=>simp[eI,ih]
    have hspot:zs≠[]→a.spot=none:=by
     intro hne
     obtain ⟨z,zs',rfl⟩:=List.exists_cons_of_ne_nil hne
     have:=hcell 0 (by simp)
     unfold World.cell? at this
     have e0:(a.add 0).spot=a.spot:=by simp[Addr.add]
     cases hh:W.heap[(a.add 0).block]? with
     | none=>rw[hh] at this;simp at this
     | some o =>
      rw[hh] at this
      cases o with
      | cells c _ _ =>
       simp only[e0] at this
       cases hs:a.spot with
       | none=>rfl
       | some q=>rw[hs] at this;simp at this
      | _=>simp at this
    have hj0:∀ j u,((zs.take len).flatMap (eI k))[j]?=some u→W.cell? ⟨a.block,a.off+j,none⟩=some u:=by
     intro j u hj
     rw[hfm,List.getElem?_map] at hj
     cases hz:(zs.take len)[j]? with
     | none=>rw[hz] at hj;simp at hj
     | some x =>
      rw[hz] at hj
      simp only[Option.map_some,Option.some.injEq] at hj
      subst hj
      have hj1:=(List.getElem?_eq_some_iff.1 hz).1
      have hj2:j<zs.length:=by rw[qx1] at hj1;omega
      have hne:zs≠[]:=by rintro rfl;simp at hj2
      have:=hcell j hj2
      have hx:zs.getD j 0=x:=by
       rw[List.getElem?_take_of_lt (by rw[qx1] at hj1;omega)] at hz
       simp[List.getD,hz]
      rw[hx,qfe _ _ (hspot hne)] at this
      exact this
    refine ⟨(zs.take len,(some a,cap)),by rw[hen,hL],?_,fun n hn=>hwf n (List.mem_of_mem_take hn),by show (zs.take len).length≤_;rw[hL];omega⟩
    refine qd9 ⟨⟨some a,cap,rfl,by show (zs.take len).length≤cap;rw[hL];exact hle,hmax,fun ad e=>?_,fun j u hj=>⟨a,rfl,hj0 j u hj⟩⟩,by rw[hfm];simp⟩ fun ad l c e hne=>?_
    ·cases e
     by_cases hz:(zs.take len).flatMap (eI k)=[]
     ·exact .inl hz
     ·exact .inr (hspot (by rintro rfl;simp at hz))
    ·cases e
     have hpos:=List.length_pos_iff.2 hne
     have:=hj0 0 _ (List.getElem?_eq_getElem hpos)
     unfold World.cell? at this
     cases hh:W.heap[a.block]? with
     | none=>simp only[hh] at this;simp at this
     | some o=>exact (Array.getElem?_eq_some_iff.1 hh).1
 obtain ⟨a,cap,ps,hv,hs,hg,hm⟩:=qsf (good:=fun x:List Int×(Option Addr×Nat)=>Nec W [] (Sl (eI k) 1 (.slice x.2.1 x.1.length x.2.2) x.1)∧(∀ n∈x.1,(Lit.int k n).wf=true)∧x.1.length≤maxLen) henc (by decide) ht hc1 hopen o1 (d:=y.1) (p:=y.2) ⟨n,by rw[vc];exact h⟩
 have hz:(ps.map (·.1)).zip (ps.map (·.2))=ps:=by
  have:∀ ps:List (List Int×(Option Addr×Nat)),(ps.map (·.1)).zip (ps.map (·.2))=ps:=by
   intro ps
   induction ps with
   | nil=>rfl
   | cons p ps ih=>rw[List.map_cons,List.map_cons,List.zip_cons_cons,ih]
  exact this ps
 refine ⟨a,cap,ps.map (·.1),ps.map (·.2),by rw[qyB];exact hv,fun w' hk=>⟨by simp,?_,fun p hp φ hφ=>?_⟩,fun l hl=>?_,by rw[qyB];exact hm⟩
 ·rw[hz,qyB,← hv]
  exact hs w' hk
 ·rw[hz] at hp
  rw[hin] at hφ
  simp only[List.mem_singleton] at hφ
  subst hφ
  exact (hg p hp).1 w' hk
 ·obtain ⟨p,hp,rfl⟩:=List.mem_map.1 hl
  exact (hg p hp).2
end SX
namespace SX
open Go Go.ChangeShapes Go.WideShapes Go.ChangeAt Go.RowKit Go.Joins Go.Deep
variable {H:Type} {enc:TypeId×Value→H} {P:Program}
end SX
namespace SX
open Go
theorem qX {n:Int}(h1:-9223372036854775808≤n)(h2:n<9223372036854775808):IntKind.wrap .i64 n=n:=by
 unfold IntKind.wrap
 simp only[IntKind.bits,IntKind.signed]
 simp only[show (2^64:Int)=18446744073709551616 from by decide,show (2^(64-1):Int)=9223372036854775808 from by decide]
 split
 ·rename_i h;simp at h;omega
 ·rename_i h;simp at h;omega
theorem zG {n:Int}(h1:0≤n)(h2:n<18446744073709551616):IntKind.wrap .u64 n=n:=by
 unfold IntKind.wrap
 simp only[IntKind.bits,IntKind.signed]
 simp only[show (2^64:Int)=18446744073709551616 from by decide,qxW,qxP,if_false]
 omega
theorem qr6 {n:Int}(h1:0≤n)(h2:n<256):IntKind.wrap .u8 n=n:=by
 unfold IntKind.wrap
 simp only[IntKind.bits,IntKind.signed]
 simp only[show (2^8:Int)=256 from by decide,qxW,qxP,if_false]
 omega
theorem qja (n:Int):IntKind.wrap .u64 n=n%18446744073709551616:=by
 unfold IntKind.wrap
 simp only[IntKind.bits,IntKind.signed]
 simp only[show (2^64:Int)=18446744073709551616 from by decide,qxW,qxP,if_false]
theorem qpI (n:Int):IntKind.wrap .u8 n=n%256:=by
 unfold IntKind.wrap
 simp only[IntKind.bits,IntKind.signed]
 simp only[show (2^8:Int)=256 from by decide,qxW,qxP,if_false]
theorem qw {a b:Int}(h1:-9223372036854775808≤a+b)(h2:a+b<9223372036854775808):iadd .i64 a b=a+b:=qX h1 h2
theorem qy {a b:Int}(h1:-9223372036854775808≤a-b)(h2:a-b<9223372036854775808):isub .i64 a b=a-b:=qX h1 h2
theorem qoY {a b:Int}(h1:-9223372036854775808≤a*b)(h2:a*b<9223372036854775808):imul .i64 a b=a*b:=qX h1 h2
theorem qt {α:Type}(xs:List α)(i:Nat):idx xs (i:Int)=xs[i]?:=by simp[idx]
theorem qT {α:Type}{lim:Nat}{xs ys:List α}(h:xs.length+ys.length≤lim):app lim xs ys=some (xs++ys):=by simp[app,h]
theorem kY {x:Int}(h:(Lit.int .i64 x).wf=true):-9223372036854775808≤x∧x<9223372036854775808:=by
 simp[Lit.wf,IntKind.min,IntKind.max,IntKind.signed,IntKind.bits] at h
 exact ⟨by omega,by omega⟩
theorem qld {x:Int}(h:(Lit.int .u8 x).wf=true):0≤x∧x<256:=by
 simp[Lit.wf,IntKind.min,IntKind.max,IntKind.signed,IntKind.bits] at h
 exact ⟨by omega,by omega⟩
theorem qhA {k:IntKind}{a:Int}{m:Nat}(ha:0≤a)(ha2:a<2^k.bits)(hm:m≤k.bits)(hs:k.signed=false):iand k a (2^m-1:Nat)=a%2^m:=by
 unfold iand
 obtain ⟨n,rfl⟩:=qxK ha
 have hn:n<2^k.bits:=by exact_mod_cast ha2
 have h1:(qye k.bits (n:Int))=qyc k.bits n:=by simp
 have h2:(qye k.bits ((2^m-1:Nat):Int))=qyc k.bits (2^m-1):=by simp
 rw[h1,h2,BitVec.toNat_and,qyy,qyy,qya hn]
 have h3:2^m≤2^k.bits:=Nat.pow_le_pow_right (by decide) hm
 have h0:0<2^m:=Nat.pow_pos (by decide)
 rw[qya (by omega),Nat.and_two_pow_sub_one_eq_mod]
 have h4:n%2^m<2^k.bits:=Nat.lt_of_lt_of_le (Nat.mod_lt _ h0) h3
 unfold IntKind.wrap
 simp only[hs,qxW,qxP,if_false]
 rw[Int.emod_eq_of_lt (by omega) (by exact_mod_cast h4)]
 simp
theorem qre {k:IntKind}{a b:Int}{m:Nat}(ha:0≤a)(ham:a<2^m)(hb:0≤b)(hbm:b%2^m=0)(hs:k.signed=false)(hab:a+b<2^k.bits):ior k a b=a+b:=by
 unfold ior
 obtain ⟨x,rfl⟩:=qxK ha
 obtain ⟨y,rfl⟩:=qxK hb
 have hx:x<2^m:=by exact_mod_cast ham
 have hy:y%2^m=0:=by exact_mod_cast hbm
 have hxy:x+y<2^k.bits:=by exact_mod_cast hab
 have h1:(qye k.bits (x:Int))=qyc k.bits x:=by simp
 have h2:(qye k.bits (y:Int))=qyc k.bits y:=by simp
 rw[h1,h2,BitVec.toNat_or,qyy,qyy,qya (by omega),qya (by omega)]
 have h3:x ||| y=x+y:=by
  have hy2:y=2^m*(y/2^m):=by
   have:=Nat.div_add_mod y (2^m);omega
  have h4:=Nat.two_pow_add_eq_or_of_lt hx (y/2^m)
  rw[← hy2] at h4
  rw[Nat.or_comm,← h4,Nat.add_comm]
 rw[h3]
 unfold IntKind.wrap
 simp only[hs,qxW,qxP,if_false]
 rw[Int.emod_eq_of_lt (by omega) (by exact_mod_cast hxy)]
 simp
theorem qhB {k:IntKind}{a:Int}{m:Nat}(hm:m≤k.bits):ishr k a (m:Int)=a/2^m:=by
 unfold ishr
 have h:min ((m:Int).toNat) k.bits=m:=by simp;omega
 rw[h,Int.fdiv_eq_ediv_of_nonneg _ (by exact_mod_cast Nat.zero_le _)]
theorem qkx {a:Int}{m:Nat}(hm:m≤64):ishl .u64 a (m:Int)=(a*2^m)%18446744073709551616:=by
 unfold ishl
 have h:min ((m:Int).toNat) (IntKind.bits .u64)=m:=by simp[IntKind.bits];omega
 rw[h,qja]
end SX
namespace SX
open Go
class UnF (P:Program) (t:TypeId) (d:outParam TypeDesc):Prop where
 u:P.underlying t=some d
class EnC (P:Program) (f:FuncId):Prop where
 e:Enters P f
structure Stp (p:List Nat) (A:Prop):Prop where
 go:A
structure Stq (p:List Nat) (A:Prop):Prop where
 go:A
theorem stp0 {A:Prop}(h:A):Stp [] A:=⟨h⟩
theorem sta (c:Nat){p:List Nat}{A:Prop}(h:Stq p A):Stq (c::p) A:=⟨h.go⟩
theorem stc (c:Nat){p:List Nat}{A:Prop}(h:Stq p A):Stp (c::p) A:=⟨h.go⟩
theorem stk {p:List Nat}{A A':Prop}(f:A'→A)(h:Stp p A'):Stq p A:=⟨f h.go⟩
theorem stz {A:Prop}(h:A):Stq [] A:=⟨h⟩
structure Stv (p:List Nat) (B A:Prop):Prop where
 go:B→A
section
variable {P:Program} {ro:Option Nat} {n:Nat} {D:List Deferred} {M0:List Nat} {w0:World} {Q:Exit→Act→World→Prop} {ρ:Type} {p:List Nat}
variable {ops:Array Oper} {rest:List Oper} {l:Env} {B:List BlkD} {R:List RowD} {F:List (World→Prop)} {m:Option ρ} {r:ρ} {ps:List Nat} {Bs:List BlkD} {Fs:List (World→Prop)} {x y c:Code}
variable {t:TypeId} {pos:String} {af:Array Edge} {gd:Option (Nat×Bool)} {d:Nat}
variable {I':Env}
theorem lka (h:∀ p∈I',look l p.1=some p.2:=by (try dsimp only);repeat (first | exact qip | refine zo rfl ?_)):∀ p∈I',look l p.1=some p.2:=h
theorem pka {α:Type}{R R':List α}(h:Pick R R':=by (try dsimp only);repeat (first | exact .nil | refine .cons 0 rfl ?_ | refine .cons 1 rfl ?_ | refine .cons 2 rfl ?_ | refine .cons 3 rfl ?_ | refine .cons 4 rfl ?_ | refine .cons 5 rfl ?_ | refine .cons 6 rfl ?_ | refine .cons 7 rfl ?_ | refine .cons 8 rfl ?_ | refine .cons 9 rfl ?_ | refine .cons 10 rfl ?_ | refine .cons 11 rfl ?_)):Pick R R':=h
theorem tka {α:Type}{R R' S:List α}(h:Takes R R' S:=by repeat (first | exact .nil | apply Takes.cons 0 rfl | apply Takes.cons 1 rfl | apply Takes.cons 2 rfl | apply Takes.cons 3 rfl | apply Takes.cons 4 rfl | apply Takes.cons 5 rfl | apply Takes.cons 6 rfl | apply Takes.cons 7 rfl | apply Takes.cons 8 rfl | apply Takes.cons 9 rfl | apply Takes.cons 10 rfl | apply Takes.cons 11 rfl)):Takes R R' S:=h
theorem fka {F':List (World→Prop)}(h:∀ φ∈F',φ∈F:=by (try dsimp only);repeat (first | exact jF | refine qG 0 rfl ?_ | refine qG 1 rfl ?_ | refine qG 2 rfl ?_ | refine qG 3 rfl ?_ | refine qG 4 rfl ?_ | refine qG 5 rfl ?_ | refine qG 6 rfl ?_ | refine qG 7 rfl ?_ | refine qG 8 rfl ?_ | refine qG 9 rfl ?_ | refine qG 10 rfl ?_ | refine qG 11 rfl ?_ | refine qG 12 rfl ?_ | refine qG 13 rfl ?_ | refine qG 14 rfl ?_ | refine qG 15 rfl ?_ | refine qG 16 rfl ?_ | refine qG 17 rfl ?_)):∀ φ∈F',φ∈F:=h
theorem araR {φ:World→Prop}{Φ:List (World→Prop)}(j:Nat){rd:RowD}(h:R[j]?=some rd)(e:Cells rd.v rd.n rd.size rd.cs=φ)(ha:Args R F Φ):Args R F (φ::Φ):=e▸.consR j rd h ha
theorem armR {φ:World→Prop}{Φ:List (World→Prop)}(j:Nat){rd:RowD}(h:R[j]?=some rd)(e:Cells rd.v rd.n rd.size rd.cs=φ)(ha:ArgsM R F Φ):ArgsM R F (φ::Φ):=e▸.consR j rd h ha
theorem ara {Φ:List (World→Prop)}(h:Args R F Φ:=by repeat (first | exact .nil | refine .consF 0 rfl ?_ | refine .consF 1 rfl ?_ | refine .consF 2 rfl ?_ | refine .consF 3 rfl ?_ | refine .consF 4 rfl ?_ | refine .consF 5 rfl ?_ | refine .consF 6 rfl ?_ | refine .consF 7 rfl ?_ | refine .consF 8 rfl ?_ | refine .consF 9 rfl ?_ | refine .consF 10 rfl ?_ | refine .consF 11 rfl ?_ | refine .consF 12 rfl ?_ | refine .consF 13 rfl ?_ | refine araR 0 rfl rfl ?_ | refine araR 1 rfl rfl ?_ | refine araR 2 rfl rfl ?_ | refine araR 3 rfl rfl ?_ | refine araR 4 rfl rfl ?_ | refine araR 5 rfl rfl ?_ | refine araR 6 rfl rfl ?_ | refine araR 7 rfl rfl ?_ | refine araR 8 rfl rfl ?_ | refine araR 9 rfl rfl ?_ | refine araR 10 rfl rfl ?_ | refine araR 11 rfl rfl ?_ | refine .consG 0 rfl (yP fun _=>rfl) ?_ | refine .consG 1 rfl (yP fun _=>rfl) ?_ | refine .consG 2 rfl (yP fun _=>rfl) ?_ | refine .consG 3 rfl (yP fun _=>rfl) ?_ | refine .consG 4 rfl (yP fun _=>rfl) ?_ | refine .consG 5 rfl (yP fun _=>rfl) ?_ | refine .consG 6 rfl (yP fun _=>rfl) ?_ | refine .consG 7 rfl (yP fun _=>rfl) ?_ | refine .consG 8 rfl (yP fun _=>rfl) ?_ | refine .consG 9 rfl (yP fun _=>rfl) ?_)):Args R F Φ:=h
theorem arma {Φ:List (World→Prop)}(h:ArgsM R F Φ:=by repeat (first | exact .nil | refine .consF 0 rfl ?_ | refine .consF 1 rfl ?_ | refine .consF 2 rfl ?_ | refine .consF 3 rfl ?_ | refine .consF 4 rfl ?_ | refine .consF 5 rfl ?_ | refine .consF 6 rfl ?_ | refine .consF 7 rfl ?_ | refine .consF 8 rfl ?_ | refine .consF 9 rfl ?_ | refine .consF 10 rfl ?_ | refine .consF 11 rfl ?_ | refine .consF 12 rfl ?_ | refine .consF 13 rfl ?_ | refine armR 0 rfl rfl ?_ | refine armR 1 rfl rfl ?_ | refine armR 2 rfl rfl ?_ | refine armR 3 rfl rfl ?_ | refine armR 4 rfl rfl ?_ | refine armR 5 rfl rfl ?_ | refine armR 6 rfl rfl ?_ | refine armR 7 rfl rfl ?_ | refine armR 8 rfl rfl ?_ | refine armR 9 rfl rfl ?_ | refine armR 10 rfl rfl ?_ | refine armR 11 rfl rfl ?_ | refine .consG 0 rfl (yP fun _=>rfl) ?_ | refine .consG 1 rfl (yP fun _=>rfl) ?_ | refine .consG 2 rfl (yP fun _=>rfl) ?_ | refine .consG 3 rfl (yP fun _=>rfl) ?_ | refine .consG 4 rfl (yP fun _=>rfl) ?_ | refine .consG 5 rfl (yP fun _=>rfl) ?_ | refine .consG 6 rfl (yP fun _=>rfl) ?_ | refine .consG 7 rfl (yP fun _=>rfl) ?_ | refine .consG 8 rfl (yP fun _=>rfl) ?_ | refine .consG 9 rfl (yP fun _=>rfl) ?_)):ArgsM R F Φ:=h
theorem qi2 {fuel:Nat}{done:Array Bool}{i:Nat}{o:Oper}{V:Value}(ho:ops[i]?=some o)(hd:o.dst=some d)(hw:wants ops l o=some true)(hy:Yv P l [] [] o V)
  (h:Stp p (SXB P ro ps n D M0 w0 (jy Q) ops Bs Fs fuel (done.setIfInBounds i true) ((d,V)::l) B R F m r)) (hk:okP ops ps done i d n=true:=by kernel_rfl):Stq (i::p) (SXB P ro ps n D M0 w0 (jy Q) ops Bs Fs (fuel+1) done l B R F m r):=⟨qo i V ho hd hw hy h.go hk⟩
theorem qk1 {fuel:Nat}{done:Array Bool}{i:Nat}{o:Oper}{V:Value}(ho:ops[i]?=some o)(hd:o.dst=some d)(hw:wants ops l o=some true)(hy:Yv P l Bs [] o V)
  (h:Stp p (SXB P ro ps n D M0 w0 (jy Q) ops Bs Fs fuel (done.setIfInBounds i true) ((d,V)::l) B R F m r)) (hk:okP ops ps done i d n=true:=by kernel_rfl):Stq (i::p) (SXB P ro ps n D M0 w0 (jy Q) ops Bs Fs (fuel+1) done l B R F m r):=⟨kZ i V ho hd hw hy h.go hk⟩
theorem qvW {fuel:Nat}{done:Array Bool}{i:Nat}{o:Oper}(ho:ops[i]?=some o)(hd:o.dst=some d)(hw:wants ops l o=some false)
  (h:Stp p (SXB P ro ps n D M0 w0 (jy Q) ops Bs Fs fuel (done.setIfInBounds i true) ((d,undef)::l) B R F m r)) (hk:okP ops ps done i d n=true:=by kernel_rfl):Stq (i::p) (SXB P ro ps n D M0 w0 (jy Q) ops Bs Fs (fuel+1) done l B R F m r):=⟨quG i ho hd hw h.go hk⟩
theorem qvX {fuel:Nat}{done done':Array Bool}{i:Nat}{o:Oper}(ho:ops[i]?=some o)(hr:Region.ready .any ops done=[i])(hdone:done.setIfInBounds i true=done')
  (h:Stp p (SXO P ro n D M0 w0 (Exit.then (fun a w=>Sh ps Bs Fs done' w∧anyK ro P ops Q (Sh ps Bs Fs) fuel done' a w) Q) ops [o] l B R F m r)):Stq (i::p) (SXB P ro ps n D M0 w0 Q ops Bs Fs (fuel+1) done l B R F m r):=⟨qpv i ho hr hdone h.go⟩
theorem qd {S:Type}(K:S→Env×List BlkD×List RowD×List (World→Prop)×Option ρ)
  (hx:SXC P ro n D M0 w0 (Exit.then (fun a w=>∃ s,(K s).2.2.2.2=some r∧Fr n D a (K s).1∧Hp M0 w0 w (K s).2.1 (K s).2.2.1 (K s).2.2.2.1) Q) x l B R F m r)
  (hy:∀ s,SXC P ro n D M0 w0 Q y (K s).1 (K s).2.1 (K s).2.2.1 (K s).2.2.2.1 (K s).2.2.2.2 r):SXC P ro n D M0 w0 Q (.seq x y) l B R F m r:=qht _ _ _ _ _ hx hy
theorem qD {S:Type}(k:Nat)(K:S→Env×List BlkD×List RowD×List (World→Prop)×Option ρ)
  (hx:SXO P ro n D M0 w0 (Exit.then (fun a w=>∃ s,(K s).2.2.2.2=some r∧Fr n D a (K s).1∧Hp M0 w0 w (K s).2.1 (K s).2.2.1 (K s).2.2.2.1) Q) ops (rest.take k) l B R F m r)
  (hy:∀ s,SXO P ro n D M0 w0 Q ops (rest.drop k) (K s).1 (K s).2.1 (K s).2.2.1 (K s).2.2.2.1 (K s).2.2.2.2 r):SXO P ro n D M0 w0 Q ops rest l B R F m r:=qpC k _ _ _ _ _ hx hy
theorem ql {S:Type}(K:S→Env×List BlkD×List RowD×List (World→Prop))(ml:Nat→S→Option ρ)(s0:S)(k0:Nat)
  (hround:∀ k s,SXC P ro n D M0 w0 (Exit.then (fun a w=>∃ k'<k+1,∃ s,ml k' s=some r∧Fr n D a (K s).1∧Hp M0 w0 w (K s).2.1 (K s).2.2.1 (K s).2.2.2) Q) c (K s).1 (K s).2.1 (K s).2.2.1 (K s).2.2.2 (ml (k+1) s) r)
  (hI:∀ p∈(K s0).1,look l p.1=some p.2:=by exact lka)
  (hB:Pick B (K s0).2.1:=by exact pka)
  (hR:Pick R (K s0).2.2.1:=by exact pka)
  (hF:∀ φ∈(K s0).2.2.2,φ∈F:=by exact fka)
  (hz:∀ s,ml 0 s=none:=by exact fun _=>rfl) :
  SXC P ro n D M0 w0 Q (.loop c) l B R F (ml k0 s0) r:=qcz _ _ _ _ ml s0 k0 hround hI hB hR hF hz
theorem qa {S:Type}{I:S→Env}{IB:S→List BlkD}{IR:S→List RowD}{IF:S→List (World→Prop)}{mj:S→Option ρ}{K:Exit→Act→World→Prop}(s:S)
  (hI:∀ p∈I s,look l p.1=some p.2:=by exact lka)
  (hB:Pick B (IB s):=by exact pka)
  (hR:Pick R (IR s):=by exact pka)
  (hF:∀ φ∈IF s,φ∈F:=by exact fka) :
  SXQ n D M0 w0 (Exit.then (fun a w=>∃ s,mj s=some r∧Fr n D a (I s)∧Hp M0 w0 w (IB s) (IR s) (IF s)) K) .normal l B R F (mj s) r:=qdt s hI hB hR hF
theorem qg {S:Type}{I:S→Env}{IB:S→List BlkD}{IR:S→List RowD}{IF:S→List (World→Prop)}{ml:Nat→S→Option ρ}{K:Exit→Act→World→Prop}{k:Nat}(s:S)
  (hI:∀ p∈I s,look l p.1=some p.2:=by exact lka)
  (hB:Pick B (IB s):=by exact pka)
  (hR:Pick R (IR s):=by exact pka)
  (hF:∀ φ∈IF s,φ∈F:=by exact fka) :
  SXQ n D M0 w0 (Exit.then (fun a w=>∃ k'<k+1,∃ s,ml k' s=some r∧Fr n D a (I s)∧Hp M0 w0 w (IB s) (IR s) (IF s)) K) .normal l B R F (ml k s) r:=qfH s hI hB hR hF
theorem qf {α γ:Type}{mg:Option α}{k:α→Option ρ}{f:FuncId}{xs:Array Operand}{tys:Array TypeId}{vs:List Value}{Φ:List (World→Prop)}{V:α→γ→Value}{RW:α→γ→List RowD}{PH:α→γ→List (World→Prop)}
  (hC:∀ {y},mg=some y→Pure P f vs Φ γ (V y) (RW y) (PH y))
  (h:∀ y,mg=some y→∀ g,SXO P ro n D M0 w0 Q ops rest ((d,V y g)::l) B (RW y g++R) (PH y g++F) (k y) r)
  (he:Enters P f:=by exact EnC.e) (hw:wants ops l ⟨some d,.call ⟨.value (.func f),xs,tys⟩,t,pos,af,gd⟩=some true:=by rfl) (hx:evArgs l xs.toList=some vs:=by rfl) (hd:Nat.blt d n=true:=by rfl)
  (ha:Args R F Φ:=by exact ara) :
  SXO P ro n D M0 w0 Q ops (⟨some d,.call ⟨.value (.func f),xs,tys⟩,t,pos,af,gd⟩::rest) l B R F (mg.bind k) r:=qi5 he hw hx hd (fun _=>hC) ha h
theorem zg {α γ:Type}{mg:Option α}{k:α→Option ρ}{f:FuncId}{xs:Array Operand}{tys:Array TypeId}{vs:List Value}{Φ:List (World→Prop)}{V:α→γ→Value}{B0 BS:List BlkD}{R0 RS:List RowD}{B1:α→γ→List BlkD}{R1:α→γ→List RowD}
  (hC:∀ {y},mg=some y→PureM P f vs B0 R0 Φ γ (V y) (B1 y) (R1 y))
  (h:∀ y,mg=some y→∀ g,SXO P ro n D M0 w0 Q ops rest ((d,V y g)::l) (B1 y g++BS) (R1 y g++RS) F (k y) r)
  (he:Enters P f:=by exact EnC.e) (hw:wants ops l ⟨some d,.call ⟨.value (.func f),xs,tys⟩,t,pos,af,gd⟩=some true:=by rfl) (hx:evArgs l xs.toList=some vs:=by rfl) (hd:Nat.blt d n=true:=by rfl)
  (hB:Takes B B0 BS:=by exact tka)
  (hR:Takes R R0 RS:=by exact tka)
  (ha:ArgsM RS F Φ:=by exact arma) :
  SXO P ro n D M0 w0 Q ops (⟨some d,.call ⟨.value (.func f),xs,tys⟩,t,pos,af,gd⟩::rest) l B R F (mg.bind k) r:=qmB he hw hx hd (fun _=>hC) hB hR ha h
theorem quH (h:SXC P ro n D M0 w0 Q c [] B R F m r):SXC P ro n D M0 w0 Q c (([]:List Value).zipIdx.map fun p=>(p.2,p.1)) B R F m r:=h
theorem quI {a0:Value}(h:SXC P ro n D M0 w0 Q c [(0,a0)] B R F m r):SXC P ro n D M0 w0 Q c ([a0].zipIdx.map fun p=>(p.2,p.1)) B R F m r:=h
theorem quJ {a0 a1:Value}(h:SXC P ro n D M0 w0 Q c [(0,a0),(1,a1)] B R F m r):SXC P ro n D M0 w0 Q c ([a0,a1].zipIdx.map fun p=>(p.2,p.1)) B R F m r:=h
theorem quK {a0 a1 a2:Value}(h:SXC P ro n D M0 w0 Q c [(0,a0),(1,a1),(2,a2)] B R F m r):SXC P ro n D M0 w0 Q c ([a0,a1,a2].zipIdx.map fun p=>(p.2,p.1)) B R F m r:=h
theorem quL {a0 a1 a2 a3:Value}(h:SXC P ro n D M0 w0 Q c [(0,a0),(1,a1),(2,a2),(3,a3)] B R F m r):SXC P ro n D M0 w0 Q c ([a0,a1,a2,a3].zipIdx.map fun p=>(p.2,p.1)) B R F m r:=h
theorem quM {a0 a1 a2 a3 a4:Value}(h:SXC P ro n D M0 w0 Q c [(0,a0),(1,a1),(2,a2),(3,a3),(4,a4)] B R F m r):SXC P ro n D M0 w0 Q c ([a0,a1,a2,a3,a4].zipIdx.map fun p=>(p.2,p.1)) B R F m r:=h
theorem qm {fn:Func}{γ:Type}{V:γ→Value}{RW:γ→List RowD}{w:World}{x:ρ}{e:Exit}(g:γ){v:Value}
  (hres:∀ a w',Fr n [] a l→Hp [] w w' B R F→(results fn a.tmps).run P w'=.ok v w':=by first | exact res1 rfl rfl | exact res2 rfl rfl rfl | exact res3 rfl rfl rfl rfl | exact res0 rfl)
  (hR:x=r→Pick R (RW g):=by intro h;subst h;exact pka)
  (hv:x=r→v=V g:=by intro h;subst h;rfl) (he:e=.ret∨e=.normal:=by first | exact .inl rfl | exact .inr rfl) :
  SXQ n [] [] w (bodyPost P fn fun e w'=>∃ g:γ,e=.returned (V g)∧Ret w w' (RW g) []) e l B R F (some x) r:=qu g hres hR hv he
theorem zP {fn:Func}{γ:Type}{V:γ→Value}{B1:γ→List BlkD}{R1:γ→List RowD}{w:World}{x:ρ}{e:Exit}(g:γ){v:Value}
  (hres:∀ a w',Fr n [] a l→Hp M0 w w' B R F→(results fn a.tmps).run P w'=.ok v w':=by first | exact res1 rfl rfl | exact res2 rfl rfl rfl | exact res3 rfl rfl rfl rfl | exact res0 rfl)
  (hB:x=r→Pick B (B1 g):=by intro h;subst h;exact pka)
  (hR:x=r→Pick R (R1 g):=by intro h;subst h;exact pka)
  (hv:x=r→v=V g:=by intro h;subst h;rfl) (he:e=.ret∨e=.normal:=by first | exact .inl rfl | exact .inr rfl) :
  SXQ n [] M0 w (bodyPost P fn fun e w'=>∃ g:γ,e=.returned (V g)∧Hp M0 w w' (B1 g) (R1 g) []) e l B R F (some x) r:=vx g hres hB hR hv he
theorem qsY {I:Env}{K:Exit→Act→World→Prop}(hI:∀ p∈I,look l p.1=some p.2:=by exact lka) :
  SXQ n D M0 w0 (Exit.then (fun a w=>∃ _s:Unit,m=some r∧Fr n D a I∧Hp M0 w0 w B R F) K) .normal l B R F m r:=qu4 hI
end
end SX
