/-
  Own texts, laid together for this claim: contracts of functions of the program and its references, used by the statements of this seat.
-/
import Derived.Test.YtanagnimhaemgaaGreatDoorQtac
import Derived.Test.YtanagnimhaemgaaGreatDoorQtaf
import Derived.Test.YtanagnimhaemgaaGreatDoorQtag
import Derived.Test.YtanagnimhaemgaaGreatDoorQtai
import Derived.Test.YtanagnimhaemgaaGreatDoorQtak
import Derived.Test.YtanagnimhaemgaaGreatDoorQtaq
import Derived.Test.YtanagnimhaemgaaGreatDoorQtar
import Derived.Test.YtanagnimhaemgaaGreatDoorQtay
set_option linter.all false
set_option maxHeartbeats 40000000
set_option maxRecDepth 100000
namespace Go.Proofs.YtanagnimhaemgaaGreatDoor
open Go Go.Ax Go.Eng
variable {r x0 x1 p0 p1:List UInt8}{q0 q1:Int}(ar sd:List (List UInt8))(x:List UInt8)(u wr:Int)(au:List (List UInt8))(cu:Int)(en b:List UInt8)(to ac a re rs:Int)(p:Nat)(ck:Int)(od:Bool)(su mc:Int)
section
attribute [local irreducible] Bl CQ CS Bo Bg Ar CU Dw EN Dy EC Bf BU Bv Bz and' C9 CB BK Au BA BL BN Aa Ad AP AZ CV Dq CW DI CE BP BM BF BG BB AU BC Ae Ap Ai CX BH Bh Ba BO CG CY CJ fits CZ CO A8 AA Ac
attribute [local irreducible] Aw
theorem A6I:Y E0 (.call 77 [.i 4] [])=some (.ret (.agg [.sl (.sl .u8) [[],[],[],[]],.i 0,.i 0,.i 0,.b false]) []):=by
 have he:Ba (min (max 4 0) 64:Int) ([]:List UInt8)=[[],[],[],[]]:=zbj
 refine tq ?_;rw[he]
theorem Vm(of:Bool):Y E0 (.call 49 [.agg [.sl (.sl .u8) ar,.i wr,.i cu,.i to,.b of]] [])=some (.ret (.agg [.sl (.sl .u8) ar,.i 0,.i 0,.i 0,.b false]) []):=by
 exact tq rfl
theorem aI(of:Bool)(h:0<=a/\a<ar.length)(hl:ar.length<=1000):Y E0 (.call 133 [.agg [.sl (.sl .u8) ar,.i wr,.i cu,.i to,.b of],.i a] [])=some (.ret (.b true) []):=by
 exact tq rfl
theorem rU(old data:List UInt8)(hd:data.length<=4294900000):Y E0 (.call 154 [.sl .u8 old,.i (Ap data),.pa 0 0,.pa 1 0] [.var [.sl .u8 data],.var [.b false]])=some (.ret (.sl .u8 data) [some (.var [.sl .u8 data]),some (.var [.b false])]):=by
 rw[AC];refine tq ?_
 simp
theorem A6J(j k:Nat)(x:List UInt8)(h:ar[j]?=some x)(hj:j+(k+1)=ar.length):BH (ar.take j++List.replicate (k+1) []) (j:Int) x=ar.take (j+1)++List.replicate k []:=by
 rw[Ea,List.take_add_one,h,Int.toNat_natCast,List.set_append,if_neg zaY,List.length_take,Nat.min_eq_left zaa,Nat.sub_self,List.append_assoc]
 rfl
theorem U5(ar:List (List UInt8))(hl:ar.length<=1000)(wr cu to a n e:Int)(of b:Bool)(data:List UInt8):∀(k j:Nat),j+k=ar.length ->
  Y E0 (.loop 153 0 2 5 [(1,.i a),(3,.fn 154 [] [.pa 0 0,.pa 1 0]),(4,.pa 2 0),(8,.pa 3 0),(10,.i n),(11,.i e),(12,.nm 4),(51,.i (ar.length:Int)),(52,.i (j:Int))] [(0,some (.var [.sl .u8 data])),(1,some (.var [.b b])),(2,some (.var [.sl (.sl .u8) ar,.i wr,.i cu,.i to,.b of])),(3,some (.var [.nil,.i 0,.i 0,.i 0,.b false])),(4,some (.row 22 (.sl .u8) (ar.take j++List.replicate k [])))])
   = some (.fin (.exit 1) 5 [(1,.i a),(3,.fn 154 [] [.pa 0 0,.pa 1 0]),(4,.pa 2 0),(8,.pa 3 0),(10,.i n),(11,.i e),(12,.nm 4)] [(0,some (.var [.sl .u8 data])),(1,some (.var [.b b])),(2,some (.var [.sl (.sl .u8) ar,.i wr,.i cu,.i to,.b of])),(3,some (.var [.nil,.i 0,.i 0,.i 0,.b false])),(4,some (.row 22 (.sl .u8) ar))])
 | 0,j,hj=>by
  obtain rfl:j=ar.length:=zaa
  rw[List.take_length,List.replicate_zero,List.append_nil]
  exact tq rfl
 | k+1,j,hj=>by
  obtain⟨x,hx⟩:∃ x,ar[j]?=some x:=⟨ar[j]'zaa,List.getElem?_eq_getElem zaa⟩
  have hg:Ai ar (j:Int)=some x:=by rw[DD];exact hx
  have ih:=U5 ar hl wr cu to a n e of b data k (j+1) zaa
  rw[show((j+1:Nat):Int)=(j:Int)+1 from by omega,<-A6J ar j k x hx hj] at ih
  rw[AO];conv=>lhs;whnf
  rw[Dp zaa]
  conv=>lhs;whnf
  rw[hg];refine tq ?_;exact ih
theorem A6K(data:List UInt8)(hl:ar.length<=1000)(ha:0<=a/\a<ar.length)(hw:0<=wr/\wr<=1000000)(hd:data.length<=65536):Y E0 (.call 153 [.agg [.sl (.sl .u8) ar,.i wr,.i 0,.i to,.b false],.i a,.sl .u8 data,.fn 154 [] [.pa 0 0,.pa 1 0]] [.var [.sl .u8 data],.var [.b false]])=some (.ret (.tup [.agg [.sl (.sl .u8) (BH ar a data),.i (wr+1),.i 0,.i to,.b false],.i 0]) [some (.var [.sl .u8 data]),some (.var [.b false])]):=by
 have h1:Ap (Ba (Ap ar) ([]:List UInt8))=(ar.length:Int):=by rw[FY,AC,AC];simp
 have he:Ba (Ap ar) ([]:List UInt8)=ar.take 0++List.replicate ar.length []:=by rw[FY,AC];simp
 have hl:=U5 ar hl (wr+1) 0 to a (Ap data) 0 false false data ar.length 0 zaa
 rw[show((0:Nat):Int)=0 from rfl,<-he] at hl;refine tq ?_;rw[aI _ _ _ _ _ _ Aq Aq];refine tq ?_;rw[h1,hl]
 conv=>lhs;whnf
 rw[D8 zaa]
 conv=>lhs;whnf
 try dsimp -iota -beta -eta -zeta only
 rw[Ak];rw[rU _ _ Aq]
 conv=>lhs;whnf
 rw[GL zaa]
 conv=>lhs;whnf
 rw[D8 zaa]
 conv=>lhs;whnf
theorem zh(data:List UInt8)(hl:ar.length<=1000)(ha:0<=a/\a<ar.length)(hw:0<=wr/\wr<=1000000)(hd:data.length<=65536):Y E0 (.call 119 [.agg [.sl (.sl .u8) ar,.i wr,.i 0,.i to,.b false],.i a,.sl .u8 data] [])=some (.ret (.tup [.agg [.sl (.sl .u8) (BH ar a data),.i (wr+1),.i 0,.i to,.b false],.i 0]) []):=by
 have h0:Dw (wr+1) 0=false:=Jc zaa
 rw[AO]
 conv=>lhs;whnf
 rw[DF];conv=>lhs;whnf
 try dsimp -iota -beta -eta -zeta only
 rw[Bc zaa];rw[Ak];rw[h0,A6K _ _ _ _ _ hl ha hw hd];exact tq rfl
theorem lH(q:Int)(p:List UInt8)(hp:p.length<=1000000):Y E0 (.call 118 [.i q,.sl .u8 p] [])=some (.ret (.sl .u8 (YP q p)) []):=by
 refine tq ?_;rw[D5 _ _ _ Aq];refine tq ?_;rw[Eu _ _ Aq Aq];refine tq ?_;rw[YP,<-List.nil_append (n8 q),<-KL]
theorem VA:Y E0 (.call 88 [.i 0] [])=some (.ret (.b true) []):=by
 exact tq rfl
theorem YQ(q:Int)(p:List UInt8)(hl:ar.length<=1000)(ha:2<=ar.length)(hw:0<=wr/\wr<=1000000)(hp:p.length<=60000)(hq:1<=q/\q<=1000000):Y E0 (.call 76 [.agg [.sl (.sl .u8) ar,.i wr,.i 0,.i to,.b false],.i 0,.i q,.sl .u8 p] [])=some (.ret (.tup [.agg [.sl (.sl .u8) (BH ar (q%2) (Rh q p)),.i (wr+1),.i 0,.i to,.b false],.i 0]) []):=by
 refine tq ?_;rw[VA];refine tq ?_;rw[lH _ _ Aq];refine tq ?_;rw[D5 _ _ _ zaE];refine tq ?_;rw[D5 _ _ _ zaE]
 conv=>lhs;whnf
 try dsimp -iota -beta -eta -zeta only
 rw[Jc zaa]
 conv=>lhs;whnf
 rw[Dx zaE]
 conv=>lhs;whnf
 try dsimp -iota -beta -eta -zeta only
 rw[MX zaa];rw[Bc zaa];rw[Ak];rw[zh _ _ _ _ _ zaa zaa zaa zaE];refine tq ?_;rw[Int.zero_add,Rh,KL,A6G,Am,AC]
theorem zi(p:List UInt8)(q w:Int)(hb:b.length<=1000000)(hq:1<=q/\q<=1000000)(hw:q%2=w){n:Nat}(g0:OH b 0 0 32=(YP q p,32,0))(g1:Ey b 32 0 8=(q,40,0))(g2:Ey b 40 0 4=((n:Int),44,0))(g3:OH b 44 0 (n:Int)=(p,44+n,0))(hp:p.length=n)(hn:44+n=b.length):Y E0 (.call 90 [.sl .u8 b,.i w] [])=some (.ret (.tup [.sl .u8 p,.i q,.b true]) []):=by
 have h0:=V3 b 0 0 32 zaa zaa zaa
 have h1:=G8 b 32 0 8 zaa zaa
 have h2:=G8 b 40 0 4 zaa zaa
 have h3:=V3 b 44 0 n zaa zaa zaa
 rw[g0] at h0;rw[g1] at h1;rw[g2] at h2;rw[g3] at h3;refine tq ?_;rw[PW _ Aq];refine tq ?_;rw[show Y E0 (.call 134 [.pa 0 0,.i 32] [.var [.sl .u8 b,.i 0,.i 0]])=_ from h0];refine tq ?_;rw[h1];refine tq ?_;rw[h2];refine tq ?_;rw[h3];refine tq ?_;rw[N9 ..];refine tq ?_;rw[lH _ _ Aq];exact tq rfl
theorem YR(w:Int):Y E0 (.call 90 [.sl .u8 [],.i w] [])=some (.ret (.tup [.sl .u8 [],.i 0,.b false]) []):=by
 have h0:=V3 [] 0 0 32 zad zad zaa
 rw[show OH [] 0 0 32=([],0,2) from by decide] at h0
 have h1:=G8 [] 0 2 8 zad zad
 rw[show Ey [] 0 2 8=(0,0,2) from by decide] at h1
 have h2:=G8 [] 0 2 4 zad zad
 rw[show Ey [] 0 2 4=(0,0,2) from by decide] at h2
 have h3:=V3 [] 0 2 0 zad zad zaa
 rw[show OH [] 0 2 0=([],0,2) from by decide] at h3;refine tq ?_;rw[PW _ Aq];refine tq ?_;rw[show Y E0 (.call 134 [.pa 0 0,.i 32] [.var [.sl .u8 [],.i 0,.i 0]])=_ from h0];refine tq ?_;rw[G8 _ _ _ _ Aq Aq];refine tq ?_;rw[G8 _ _ _ _ Aq Aq];refine tq ?_;rw[V3 _ _ _ _ Aq Aq Aq];refine tq ?_;rw[N9 ..];exact tq rfl
theorem zk{b p:List UInt8}{q:Int}(hb:b=Rh q p)(hp:p.length<=60000)(hq:1<=q/\q<=1000000):OH b 0 0 32=(YP q p,32,0)/\Ey b 32 0 8=(q,40,0)/\Ey b 40 0 4=((p.length:Int),44,0)/\OH b 44 0 (p.length:Int)=(p,44+p.length,0)/\44+p.length=b.length:=by
 have hl:b.length=44+p.length:=by rw[hb,Du]
 have e0:b.drop 0=YP q p++(n8 q++(n4 (p.length:Int)++(p++[]))):=by rw[hb,Rh];simp
 obtain⟨a0,a1,a2⟩:=TL (n:=32) zaa e0 (Df q p)
 obtain⟨b0,b1,b2⟩:=FZ (n:=8) (x:=q) a1 zaa a2 zaa zaa zaa
 obtain⟨c0,c1,c2⟩:=FZ (n:=4) (x:=(p.length:Int)) b1 zaa b2 zaa zaa zat
 obtain⟨d0,d1,d2⟩:=TL (n:=p.length) c1 c2 rfl;exact⟨a0,b0,c0,d0,by omega⟩
theorem PZ(p:List UInt8)(q w:Int)(hp:p.length<=60000)(hq:1<=q/\q<=1000000)(hw:q%2=w):Y E0 (.call 90 [.sl .u8 (Rh q p),.i w] [])=some (.ret (.tup [.sl .u8 p,.i q,.b true]) []):=by
 obtain⟨h0,h1,h2,h3,h4⟩:=zk (b:=Rh q p) rfl hp hq;exact zi (Rh q p) p q w zaa hq hw h0 h1 h2 h3 rfl h4
def OV(ar:List (List UInt8))(q:Int)(p:List UInt8):Prop:=ar.length=4/\1<=q/\q<=900000/\p.length<=60000/\ar[(q%2).toNat]?=some (Rh q p)/\(ar[((q+1)%2).toNat]?=some []\/∃ p',p'.length<=60000/\2<=q/\ar[((q+1)%2).toNat]?=some (Rh (q-1) p'))
theorem aJ{x:List UInt8}(hl:ar.length<=1000)(ha:0<=a/\a<ar.length)(hg:ar[a.toNat]?=some x)(hx:x.length<=1000000):Y E0 (.call 89 [.agg [.sl (.sl .u8) ar,.i wr,.i cu,.i to,.b false],.i a] [])=some (.ret (.tup [.sl .u8 x,.i 0]) []):=by
 have hg:Ai ar a=some x:=by rw[Lj,lget0,if_pos ha.1];exact hg
 refine tq ?_;rw[aI _ _ _ _ _ _ Aq Aq];refine tq ?_;rw[hg];exact tq rfl
theorem YS(hl:ar.length=4)(h0:ar[(0:Int).toNat]?=some x0)(h1:ar[(1:Int).toNat]?=some x1)(b0:x0.length<=1000000)(b1:x1.length<=1000000):Y E0 (.loop 50 0 0 2 [(1,.i 0),(2,.pa 0 0),(4,.nil),(5,.i 0),(7,.pa 1 0),(18,.i 0)] [(0,some (.var [.sl (.sl .u8) ar,.i wr,.i cu,.i to,.b false])),(1,some (.var [.nil,.nil]))])=some (.fin (.exit 0) 1 [(4,.nil),(5,.i 0),(7,.pa 0 0)] [(0,some (.var [.sl .u8 x0,.sl .u8 x1]))]):=by
 refine tq ?_;rw[aJ _ _ _ _ _ Aq Aq Aq Aq];refine tq ?_;refine tq ?_;rw[aJ _ _ _ _ _ Aq Aq Aq Aq];refine tq ?_;exact tq rfl
theorem lI{o0:Bool}(e0:Y E0 (.call 90 [.sl .u8 x0,.i 0] [])=some (.ret (.tup [.sl .u8 p0,.i q0,.b o0]) []))(e1:Y E0 (.call 90 [.sl .u8 x1,.i 1] [])=some (.ret (.tup [.sl .u8 p1,.i q1,.b true]) []))(h:0<=q0/\q0<q1/\q1<=1000000)(hz:o0=true->0<q0):
  Y E0 (.loop 50 1 0 0 [(4,.nil),(5,.i 0),(9,.b false),(35,.agg [.sl .u8 x0,.sl .u8 x1]),(36,.i 0)] [])=some (.fin (.exit 2) 0 [(4,.sl .u8 p1),(5,.i q1),(9,.b true)] []):=by
 cases o0 with
 | false =>
  refine tq ?_;rw[e0];refine tq ?_;refine tq ?_;rw[show(0+1:Int)=1 from rfl,e1];refine tq ?_;exact tq rfl
 | true =>
  have hz:=hz rfl
  refine tq ?_;rw[e0];refine tq ?_;refine tq ?_;rw[show(0+1:Int)=1 from rfl,e1];refine tq ?_;exact tq rfl
theorem lJ{o1:Bool}(e0:Y E0 (.call 90 [.sl .u8 x0,.i 0] [])=some (.ret (.tup [.sl .u8 p0,.i q0,.b true]) []))(e1:Y E0 (.call 90 [.sl .u8 x1,.i 1] [])=some (.ret (.tup [.sl .u8 p1,.i q1,.b o1]) []))(h:0<=q1/\q1<q0/\q0<=1000000):
  Y E0 (.loop 50 1 0 0 [(4,.nil),(5,.i 0),(9,.b false),(35,.agg [.sl .u8 x0,.sl .u8 x1]),(36,.i 0)] [])=some (.fin (.exit 2) 0 [(4,.sl .u8 p0),(5,.i q0),(9,.b true)] []):=by
 cases o1 with
 | false =>
  refine tq ?_;rw[e0];refine tq ?_;refine tq ?_;rw[show(0+1:Int)=1 from rfl,e1];refine tq ?_;exact tq rfl
 | true =>
  refine tq ?_;rw[e0];refine tq ?_;refine tq ?_;rw[show(0+1:Int)=1 from rfl,e1];refine tq ?_;exact tq rfl
theorem Qo{o0:Bool}(hl:ar.length=4)(h0:ar[(0:Int).toNat]?=some x0)(h1:ar[(1:Int).toNat]?=some x1)(b0:x0.length<=1000000)(b1:x1.length<=1000000)(e0:Y E0 (.call 90 [.sl .u8 x0,.i 0] [])=some (.ret (.tup [.sl .u8 p0,.i q0,.b o0]) []))(e1:Y E0 (.call 90 [.sl .u8 x1,.i 1] [])=some (.ret (.tup [.sl .u8 p1,.i q1,.b true]) []))(h:0<=q0/\q0<q1/\q1<=1000000)(hz:o0=true->0<q0):
  Y E0 (.call 50 [.agg [.sl (.sl .u8) ar,.i wr,.i cu,.i to,.b false],.i 0] [])=some (.ret (.tup [.sl .u8 p1,.i q1,.i 0]) []):=by
 refine tq ?_;rw[VA];refine tq ?_;rw[YS ar wr cu to hl h0 h1 b0 b1];refine tq ?_;rw[lI e0 e1 h hz];exact tq rfl
theorem Qp{o1:Bool}(hl:ar.length=4)(h0:ar[(0:Int).toNat]?=some x0)(h1:ar[(1:Int).toNat]?=some x1)(b0:x0.length<=1000000)(b1:x1.length<=1000000)(e0:Y E0 (.call 90 [.sl .u8 x0,.i 0] [])=some (.ret (.tup [.sl .u8 p0,.i q0,.b true]) []))(e1:Y E0 (.call 90 [.sl .u8 x1,.i 1] [])=some (.ret (.tup [.sl .u8 p1,.i q1,.b o1]) []))(h:0<=q1/\q1<q0/\q0<=1000000):
  Y E0 (.call 50 [.agg [.sl (.sl .u8) ar,.i wr,.i cu,.i to,.b false],.i 0] [])=some (.ret (.tup [.sl .u8 p0,.i q0,.i 0]) []):=by
 refine tq ?_;rw[VA];refine tq ?_;rw[YS ar wr cu to hl h0 h1 b0 b1];refine tq ?_;rw[lJ e0 e1 h];exact tq rfl
theorem Vo(q:Int)(p:List UInt8)(wr cu to:Int)(h:OV ar q p):Y E0 (.call 50 [.agg [.sl (.sl .u8) ar,.i wr,.i cu,.i to,.b false],.i 0] [])=some (.ret (.tup [.sl .u8 p,.i q,.i 0]) []):=by
 obtain⟨h1,h2,h3,h4,h5,h6⟩:=h
 have hp:=PZ p q (q%2) h4 ⟨h2,by omega⟩ rfl
 have hr:=Du q p
 rcases(by omega:q%2=0\/q%2=1) with hm|hm
 ·rw[hm] at h5 hp;rw[show(q+1)%2=1 from by omega] at h6
  rcases h6 with h6|⟨p',h7,h8,h6⟩
  ·exact Qp ar wr cu to h1 h5 h6 zaa zad hp (YR 1) zaa
  ·have hr':=Du (q-1) p'
   exact Qp ar wr cu to h1 h5 h6 zaa zaa hp (PZ p' (q-1) 1 h7 zaa zaa) zaa
 ·rw[hm] at h5 hp;rw[show(q+1)%2=0 from by omega] at h6
  rcases h6 with h6|⟨p',h7,h8,h6⟩
  ·exact Qo ar wr cu to h1 h6 h5 zad zaa (YR 0) hp zaa (fun h=>by cases h)
  ·have hr':=Du (q-1) p'
   exact Qo ar wr cu to h1 h6 h5 zaa zaa (PZ p' (q-1) 0 h7 zaa zaa) hp zaa (fun _=>by omega)
theorem zl{ar:List (List UInt8)}{q:Int}{p p':List UInt8}(h:OV ar q p)(hq:q+1<=900000)(hp:p'.length<=60000):OV (BH ar ((q+1)%2) (Rh (q+1) p')) (q+1) p':=by
 obtain⟨h1,h2,h3,h4,h5,h6⟩:=h;rw[Ea]
 refine⟨by rw[List.length_set];exact h1,by omega,by omega,hp,?_,.inr ⟨p,h4,by omega,?_⟩⟩
 ·rw[List.getElem?_set_self zaa]
 ·rw[List.getElem?_set_ne zaa,show(q+1+1)%2=q%2 from by omega,h5,show q+1-1=q from by omega]
end
section
attribute [local irreducible] Bl CQ CS Bo Bg Ar CU Dw EN Dy EC Bf BU Bv Bz and' C9 CB BK Au BA BL BN Aa Ad AP AZ CV Dq CW DI CE BP BM BF BG BB AU BC Ae Ap Ai CX BH Bh Ba BO CG CY CJ fits CZ CO A8 AA Ac
theorem ND(q:Nat)(size most x:Int)(hb:b.length<=1000000)(hp:p<=b.length)(g:Ey b p 0 size=(x,q,0))(hx:x<=most):Y E0 (.call 93 [.pa 0 0,.i size,.i most] [.var [.pa 1 0,.i 0],.var [.sl .u8 b,.i (p:Int),.i 0]])=some (.ret (.i x) [some (.var [.pa 1 0,.i 0]),some (.var [.sl .u8 b,.i (q:Int),.i 0])]):=by
 have h:=G8 b p 0 size zaa hp
 rw[g] at h
 refine tq ?_
 rw[h]
 refine tq ?_
 rw[N9 ..]
 exact tq rfl
theorem Eg(q:Nat)(size x:Int)(hb:b.length<=1000000)(hp:p<=b.length)(g:Ey b p 0 size=(x,q,0))(hx:x<=9223372036854775807):Y E0 (.call 92 [.pa 0 0,.i size] [.var [.pa 1 0,.i 0],.var [.sl .u8 b,.i (p:Int),.i 0]])=some (.ret (.i x) [some (.var [.pa 1 0,.i 0]),some (.var [.sl .u8 b,.i (q:Int),.i 0])]):=by
 have h:=ND b p q size 9223372036854775807 x hb hp g hx
 refine tq ?_
 rw[h]
 exact tq rfl
theorem lS(q:Nat)(x:Int)(hb:b.length<=1000000)(hp:p<=b.length)(g:Ey b p 0 1=(x,q,0))(hx:x<=1):Y E0 (.call 96 [.pa 0 0] [.var [.pa 1 0,.i 0],.var [.sl .u8 b,.i (p:Int),.i 0]])=some (.ret (.b (Dw x 1)) [some (.var [.pa 1 0,.i 0]),some (.var [.sl .u8 b,.i (q:Int),.i 0])]):=by
 have h:=ND b p q 1 1 x hb hp g hx
 refine tq ?_
 rw[h]
 exact tq rfl
theorem MI(x:List UInt8)(p q:Nat)(hb:b.length<=1000000)(hp:p<=b.length)(g:JK b p 0 4096=(x,q,0)):Y E0 (.call 95 [.pa 0 0] [.var [.pa 1 0,.i 0],.var [.sl .u8 b,.i (p:Int),.i 0]])=some (.ret (.sl .u8 x) [some (.var [.pa 1 0,.i 0]),some (.var [.sl .u8 b,.i (q:Int),.i 0])]):=by
 have h:=Tu b p 0 4096 zaa hp
 rw[g] at h
 refine tq ?_
 rw[h]
 refine tq ?_
 rw[N9 ..]
 exact tq rfl
theorem A3g:Y E0 (.call 170 [.i 0] [])=some (.ret (.agg [.nil,.i 0]) []):=by
 have e:Ar .and 0 3=0:=by rw[Af];decide
 refine tq ?_
 with_reducible rfl
theorem sD:Y E0 (.loop 138 0 0 3 [(2,.pa 0 0),(4,.pa 1 0),(6,.pa 2 0),(29,.i 0),(30,.i 0)] [(0,some (.var [.nil,.i 0])),(1,some (.var [.sl .u8 x,.i ((9:Nat):Int),.i 0])),(2,some (.var [.nil,.i u]))])=some (.fin (.exit 0) 3 [(2,.pa 0 0),(4,.pa 1 0),(6,.pa 2 0)] [(0,some (.var [.nil,.i 0])),(1,some (.var [.sl .u8 x,.i ((9:Nat):Int),.i 0])),(2,some (.var [.nil,.i u]))]):=by
 rw[AO];conv=>lhs;whnf
 exact tq rfl
theorem lT(hx:x=0::n8 u)(hu:0<=u/\u<=1000000):Y E0 (.call 138 [.sl .u8 x] [])=some (.ret (.tup [.agg [.sl (.sl (.sl .u8)) [],.i u],.i 0]) []):=by
 have hl:x.length=9:=by rw[hx,List.length_cons,Bq]
 have e0:x.drop 0=Oi 1 (UInt64.ofInt 0)++(n8 u++[]):=by rw[hx];simp;rfl
 obtain⟨a0,a1,a2⟩:=FZ (n:=1) (x:=0) zaa zaa e0 zaa zaa zad
 obtain⟨b0,b1,b2⟩:=FZ (n:=8) (x:=u) a1 zaa a2 zaa zaa zaa
 have e1:=OI b1 b2
 have h0:=G8 x 0 0 1 zaa zaa
 have h1:=G8 x 1 0 8 zaa zaa
 have h2:=Tt x 9 0 zaa zaa
 rw[show Ey x 0 0 1=(0,1,0) from a0] at h0;rw[show Ey x 1 0 8=(u,9,0) from b0] at h1;rw[show VT x 9 0=0 from e1] at h2
 have e3:Ap ([]:List (List (List UInt8)))=0:=zaK
 refine tq ?_
 rw[PW _ Aq]
 refine tq ?_
 rw[show Y E0 (.call 135 [.pa 0 0,.i 1] [.var [.sl .u8 x,.i 0,.i 0]])=_ from h0]
 refine tq ?_
 rw[N9 ..]
 refine tq ?_
 rw[A3g]
 refine tq ?_
 rw[h1]
 refine tq ?_
 rw[sD]
 refine tq ?_
 rw[h2]
 exact tq rfl
theorem FH{b:List UInt8}{p q:Nat}{n x:Int}(hp:p<=b.length)(g:Ey b p 0 n=(x,q,0)):q<=b.length:=by
 have:=MB (b:=b) (at':=p) (e:=0) (size:=n) hp;rw[g] at this;exact this
theorem Kt{b x:List UInt8}{p q:Nat}{n:Int}(hp:p<=b.length)(g:JK b p 0 n=(x,q,0)):q<=b.length:=by
 have:=Xf (b:=b) (at':=p) (e:=0) (most:=n) hp;rw[g] at this;exact this
def lU(b:List UInt8):Nat->List (List UInt8)->Nat->Prop
 | p,[],q=>q=p
 | p,x::xs,q=>∃ p',JK b p 0 4096=(x,p',0)/\lU b p' xs q
theorem zn(u:Int)(p q:Nat)(hb:b.length<=1000000)(hp:p<=b.length)(hu:0<=u/\u<=1000000)(g:JK b p 0 4096=(0::n8 u,q,0)):Y E0 (.call 97 [.pa 0 0] [.var [.pa 1 0,.i 0],.var [.sl .u8 b,.i (p:Int),.i 0]])=some (.ret (.agg [.sl (.sl (.sl .u8)) [],.i u]) [some (.var [.pa 1 0,.i 0]),some (.var [.sl .u8 b,.i (q:Int),.i 0])]):=by
 have h:=MI b (0::n8 u) p q hb hp g
 have h2:=lT (0::n8 u) u rfl hu
 refine tq ?_
 rw[h]
 refine tq ?_
 rw[h2]
 exact tq rfl
theorem Vq(b:List UInt8)(m:Nat)(hb:b.length<=1000000)(hm:m<=10):∀(k j:Nat) (l xs:List (List UInt8)) (p q:Nat),j+k=m->xs.length=k->p<=b.length->l.length+k<=20->lU b p xs q ->
  Y E0 (.loop 94 0 3 4 [(1,.pa 0 0),(3,.nm 3),(4,.i (m:Int)),(5,.i (j:Int))] [(0,some (.var [.pa 1 0])),(1,some (.var [.pa 2 0,.i 0])),(2,some (.var [.sl .u8 b,.i (p:Int),.i 0])),(3,some (.row 22 (.sl .u8) l))])
   = some (.fin (.exit 0) 3 [(3,.sl (.sl .u8) (l++xs))] [(0,some (.var [.pa 1 0])),(1,some (.var [.pa 2 0,.i 0])),(2,some (.var [.sl .u8 b,.i (q:Int),.i 0]))])
 | 0,j,l,[],p,q,hj,hx,hp,hl,h=>by
  obtain rfl:j=m:=zaa
  obtain rfl:q=p:=h
  rw[List.append_nil]
  rw[AO];conv=>lhs;whnf
  refine tq ?_
  with_reducible rfl
 | k+1,j,l,x::xs,p,q,hj,hx,hp,hl,h=>by
  obtain⟨q1,h1,h2⟩:=h
  have g:=MI b x p q1 hb hp h1
  have ih:=Vq b m hb hm k (j+1) (l++[x]) xs q1 q zaa zaZ (Kt hp h1) zat h2
  rw[show((j+1:Nat):Int)=(j:Int)+1 from by omega,List.append_assoc,List.singleton_append] at ih
  rw[<-Am l [x]] at ih
  rw[AO];conv=>lhs;whnf
  refine tq ?_
  rw[g]
  refine tq ?_
  exact ih
theorem QW(m:Nat)(xs:List (List UInt8))(p q:Nat)(hb:b.length<=1000000)(hm:xs.length=m)(hm':m<=10)(hp:p<=b.length)(h:lU b p xs q):
  Y E0 (.call 94 [.i (m:Int),.pa 0 0] [.var [.pa 1 0],.var [.pa 2 0,.i 0],.var [.sl .u8 b,.i (p:Int),.i 0]])=some (.ret (.sl (.sl .u8) xs) [some (.var [.pa 1 0]),some (.var [.pa 2 0,.i 0]),some (.var [.sl .u8 b,.i (q:Int),.i 0])]):=by
 have hl:=Vq b m hb hm' m 0 [] xs p q zaa hm hp zat h
 rw[show((0:Nat):Int)=0 from rfl,List.nil_append] at hl
 refine tq ?_
 (conv in Y E0 _=>arg 2;change Rq.loop 94 0 3 4 [(1,AV.pa 0 0),(3,AV.nm 3),(4,AV.i (m:Int)),(5,AV.i 0)] [(0,some (Rs.var [AV.pa 1 0])),(1,some (Rs.var [AV.pa 2 0,AV.i 0])),(2,some (Rs.var [AV.sl Ty.u8 b,AV.i (p:Int),AV.i 0])),(3,some (Rs.row 22 Ty.u8.sl []))]);rw[hl]
 refine tq ?_
 rfl
def zo(b:List UInt8):Nat->List Int->Nat->Prop
 | p,[],q=>q=p
 | p,x::xs,q=>x<=9223372036854775807/\∃ p',Ey b p 0 8=(x,p',0)/\zo b p' xs q
theorem YV{b:List UInt8}:∀ {l:List (List UInt8)} {p q:Nat},p<=b.length->lU b p l q->q<=b.length
 | [],p,q,hp,h=>by obtain rfl:q=p:=h;exact hp
 | x::l,p,q,hp,⟨p',h1,h2⟩=>YV (Kt hp h1) h2
theorem sF{b:List UInt8}:∀ {l:List Int} {p q:Nat},p<=b.length->zo b p l q->q<=b.length
 | [],p,q,hp,h=>by obtain rfl:q=p:=h;exact hp
 | x::l,p,q,hp,⟨_,p',h1,h2⟩=>sF (FH hp h1) h2
theorem sG(b:List UInt8)(p:Nat):Y E0 (.loop 51 0 0 5 [(2,.pa 0 0),(4,.pa 1 0),(6,.pa 2 0),(62,.i 0),(63,.i 0)] [(0,some (.var [.nil,.nil,.nil,.i 0,.i 0,.i 0,.i 0,.b false,.nil,.i 0,.i 0,.nil,.i 0,.i 0,.i 0,.i 0,.i 0,.i 0,.nil])),(1,some (.var [.pa 3 0])),(2,some (.var [.sl (.sl .u8) sd,.sl (.sl .u8) au,.sl .u8 en,.i ac,.i re,.i rs,.i ck,.b od,.sl (.sl (.sl .u8)) [],.i su,.i mc,.nil,.i 0,.i 0,.i 0,.i 0,.i 0,.i 0,.nil])),(3,some (.var [.pa 4 0,.i 0])),(4,some (.var [.sl .u8 b,.i (p:Int),.i 0]))])=some (.fin (.exit 0) 5 [(2,.pa 0 0),(4,.pa 1 0),(6,.pa 2 0)] [(0,some (.var [.nil,.nil,.nil,.i 0,.i 0,.i 0,.i 0,.b false,.nil,.i 0,.i 0,.nil,.i 0,.i 0,.i 0,.i 0,.i 0,.i 0,.nil])),(1,some (.var [.pa 3 0])),(2,some (.var [.sl (.sl .u8) sd,.sl (.sl .u8) au,.sl .u8 en,.i ac,.i re,.i rs,.i ck,.b od,.sl (.sl (.sl .u8)) [],.i su,.i mc,.nil,.i 0,.i 0,.i 0,.i 0,.i 0,.i 0,.nil])),(3,some (.var [.pa 4 0,.i 0])),(4,some (.var [.sl .u8 b,.i (p:Int),.i 0]))]):=by
 rw[AO];conv=>lhs;whnf
 exact tq rfl
theorem YW(b:List UInt8)(l1 l2 l3 l4 l5 l6:Int)(p q:Nat)(hb:b.length<=1000000)(hp:p<=b.length)(g:zo b p [l1,l2,l3,l4,l5,l6] q):Y E0 (.loop 51 1 0 6 [(2,.pa 0 0),(4,.pa 1 0),(6,.pa 2 0),(92,.nm 3),(93,.i ((6:Nat):Int)),(94,.i 0)] [(0,some (.var [.nil,.nil,.nil,.i 0,.i 0,.i 0,.i 0,.b false,.nil,.i 0,.i 0,.nil,.i 0,.i 0,.i 0,.i 0,.i 0,.i 0,.nil])),(1,some (.var [.pa 4 0])),(2,some (.var [.sl (.sl .u8) sd,.sl (.sl .u8) au,.sl .u8 en,.i ac,.i re,.i rs,.i ck,.b od,.sl (.sl (.sl .u8)) [],.i su,.i mc,.nil,.i 0,.i 0,.i 0,.i 0,.i 0,.i 0,.nil])),(3,some (.rowA 184 1 6 [.pa 2 12,.pa 2 13,.pa 2 14,.pa 2 15,.pa 2 16,.pa 2 17])),(4,some (.var [.pa 5 0,.i 0])),(5,some (.var [.sl .u8 b,.i (p:Int),.i 0]))])=some (.fin (.exit 2) 5 [(2,.pa 0 0),(4,.pa 1 0),(6,.pa 2 0)] [(0,some (.var [.nil,.nil,.nil,.i 0,.i 0,.i 0,.i 0,.b false,.nil,.i 0,.i 0,.nil,.i 0,.i 0,.i 0,.i 0,.i 0,.i 0,.nil])),(1,some (.var [.pa 3 0])),(2,some (.var [.sl (.sl .u8) sd,.sl (.sl .u8) au,.sl .u8 en,.i ac,.i re,.i rs,.i ck,.b od,.sl (.sl (.sl .u8)) [],.i su,.i mc,.nil,.i l1,.i l2,.i l3,.i l4,.i l5,.i l6,.nil])),(3,some (.var [.pa 4 0,.i 0])),(4,some (.var [.sl .u8 b,.i (q:Int),.i 0]))]):=by
 obtain⟨b1,p1,g1,b2,p2,g2,b3,p3,g3,b4,p4,g4,b5,p5,g5,b6,p6,g6,hq⟩:=g
 obtain rfl:q=p6:=hq
 have k1:=FH hp g1
 have k2:=FH k1 g2
 have k3:=FH k2 g3
 have k4:=FH k3 g4
 have k5:=FH k4 g5
 have h1:=Eg b p p1 8 l1 hb hp g1 b1
 have h2:=Eg b p1 p2 8 l2 hb k1 g2 b2
 have h3:=Eg b p2 p3 8 l3 hb k2 g3 b3
 have h4:=Eg b p3 p4 8 l4 hb k3 g4 b4
 have h5:=Eg b p4 p5 8 l5 hb k4 g5 b5
 have h6:=Eg b p5 q 8 l6 hb k5 g6 b6
 rw[AO];conv=>lhs;whnf
 refine tq ?_
 rw[h1]
 refine tq ?_
 refine tq ?_
 rw[h2]
 refine tq ?_
 refine tq ?_
 rw[h3]
 refine tq ?_
 refine tq ?_
 rw[h4]
 refine tq ?_
 refine tq ?_
 rw[h5]
 refine tq ?_
 refine tq ?_
 rw[h6]
 refine tq ?_
 exact tq rfl
theorem sH(b:List UInt8)(l1 l2 l3 l4 l5 l6:Int)(p:Nat):Y E0 (.loop 51 2 0 5 [(2,.pa 0 0),(4,.pa 1 0),(6,.pa 2 0),(104,.i 0),(105,.i 0)] [(0,some (.var [.nil,.nil,.nil,.i 0,.i 0,.i 0,.i 0,.b false,.nil,.i 0,.i 0,.nil,.i 0,.i 0,.i 0,.i 0,.i 0,.i 0,.nil])),(1,some (.var [.pa 3 0])),(2,some (.var [.sl (.sl .u8) sd,.sl (.sl .u8) au,.sl .u8 en,.i ac,.i re,.i rs,.i ck,.b od,.sl (.sl (.sl .u8)) [],.i su,.i mc,.nil,.i l1,.i l2,.i l3,.i l4,.i l5,.i l6,.nil])),(3,some (.var [.pa 4 0,.i 0])),(4,some (.var [.sl .u8 b,.i (p:Int),.i 0]))])=some (.fin (.exit 4) 5 [(2,.pa 0 0),(4,.pa 1 0),(6,.pa 2 0)] [(0,some (.var [.nil,.nil,.nil,.i 0,.i 0,.i 0,.i 0,.b false,.nil,.i 0,.i 0,.nil,.i 0,.i 0,.i 0,.i 0,.i 0,.i 0,.nil])),(1,some (.var [.pa 3 0])),(2,some (.var [.sl (.sl .u8) sd,.sl (.sl .u8) au,.sl .u8 en,.i ac,.i re,.i rs,.i ck,.b od,.sl (.sl (.sl .u8)) [],.i su,.i mc,.nil,.i l1,.i l2,.i l3,.i l4,.i l5,.i l6,.nil])),(3,some (.var [.pa 4 0,.i 0])),(4,some (.var [.sl .u8 b,.i (p:Int),.i 0]))]):=by
 rw[AO];conv=>lhs;whnf
 exact tq rfl
theorem A6L(sd au:List (List UInt8))(en:List UInt8)(ac re rs ck:Int)(od:Bool)(su mc:Int)(l1 l2 l3 l4 l5 l6 w:Int)(pA pB pC pD pE pF pG pH pI pJ pL pM:Nat)(hb:b.length<=1000000)(hbl:2<=b.length)(hac:ac<=3)(hsd:sd.length=3)(hau:au.length=4)(hre:re<=1000000)(hrs:rs<=1000000)(hck:ck<=2000000000000)(hw:w<=1)(hod:Dw w 1=od)(hsu:0<=su/\su<=1000000)(hmc:mc<=2000000000000)(g0:Ey b 0 0 1=(1,1,0))(g1:Ey b 1 0 1=(ac,2,0))(gA:lU b 2 sd pA)(gB:lU b pA au pB)(gC:JK b pB 0 4096=(en,pC,0))(gD:Ey b pC 0 8=(re,pD,0))(gE:Ey b pD 0 8=(rs,pE,0))(gF:Ey b pE 0 8=(ck,pF,0))(gG:Ey b pF 0 1=(w,pG,0))(gH:JK b pG 0 4096=(0::n8 su,pH,0))(gI:Ey b pH 0 8=(mc,pI,0))(gJ:Ey b pI 0 1=(0,pJ,0))(gL:zo b pJ [l1,l2,l3,l4,l5,l6] pL)(gM:Ey b pL 0 1=(0,pM,0))(gZ:VT b pM 0=0)(hN:pM<=b.length):
  Y E0 (.call 51 [.sl .u8 b] [])=some (.ret (.tup [.agg (Rt sd au en ac re rs ck od [] su mc [] l1 l2 l3 l4 l5 l6 []),.i 0]) []):=by
 have k2:2<=b.length:=hbl
 have kA:=YV k2 gA
 have kB:=YV kA gB
 have kC:=Kt kB gC
 have kD:=FH kC gD
 have h0:=Eg b 0 1 1 1 hb zaa g0 zaa
 have h1:=ND b 1 2 1 3 ac hb zaa g1 hac
 have hA:=QW b 3 sd 2 pA hb hsd zaa k2 gA
 have hB:=QW b 4 au pA pB hb hau zaa kA gB
 have hC:=MI b en pB pC hb kB gC
 have hD:=Eg b pC pD 8 re hb kC gD zaa
 have kE:=FH kD gE
 have hE:=Eg b pD pE 8 rs hb kD gE zaa
 have kF:=FH kE gF
 have hF:=Eg b pE pF 8 ck hb kE gF zaa
 have kG:=FH kF gG
 have hG:=lS b pF pG w hb kF gG hw
 rw[hod] at hG
 have kH:=Kt kG gH
 have hH:=zn b su pG pH hb kG hsu gH
 have kI:=FH kH gI
 have hI:=Eg b pH pI 8 mc hb kH gI zaa
 have kJ:=FH kI gJ
 have hJ:=ND b pI pJ 1 6 0 hb kI gJ zaa
 have hL:=YW sd au en ac re rs ck od su mc b l1 l2 l3 l4 l5 l6 pJ pL hb kJ gL
 have kL:pL<=b.length:=sF kJ gL
 have hM:=ND b pL pM 1 8 0 hb kL gM zaa
 have hZ:=Tt b pM 0 zaa hN
 rw[gZ] at hZ
 refine tq ?_
 rw[PW _ Aq]
 refine tq ?_
 rw[show Y E0 (.call 92 [.pa 0 0,.i 1] [.var [.pa 1 0,.i 0],.var [.sl .u8 b,.i 0,.i 0]])=_ from h0]
 refine tq ?_
 rw[h1]
 refine tq ?_
 rw[show Y E0 (.call 94 [.i 3,.pa 0 0] _)=_ from hA]
 refine tq ?_
 rw[show Y E0 (.call 94 [.i 4,.pa 0 0] _)=_ from hB]
 refine tq ?_
 rw[hC]
 refine tq ?_
 rw[hD]
 refine tq ?_
 rw[hE]
 refine tq ?_
 rw[hF]
 refine tq ?_
 rw[hG]
 refine tq ?_
 rw[hH]
 refine tq ?_
 rw[hI]
 refine tq ?_
 rw[hJ]
 refine tq ?_
 rw[sG ..]
 refine tq ?_
 rw[YW (hb:=Aq) (hp:=Aq) (g:=Aq) ..]
 refine tq ?_
 rw[hM]
 refine tq ?_
 rw[sH ..]
 refine tq ?_
 rw[hZ]
 conv=>lhs;whnf
 try dsimp -iota -beta -eta -zeta only
 rw[drw zaj];conv=>lhs;whnf
 rw[AO]
 conv=>lhs;whnf
 rw[AO]
 conv=>lhs;whnf
 rw[DY zaa]
 conv=>lhs;whnf
theorem OW{b x:List UInt8}{p:Nat}(hp:p<=b.length)(h:b.drop p=bl x++r)(hx:x.length<=4096):∃ q,JK b p 0 4096=(x,q,0)/\q<=b.length/\b.drop q=r:=by
 obtain⟨h1,h2,h3⟩:=QF (most:=4096) hp h zaa zaa
 exact⟨_,h1,h2,h3⟩
theorem MO{b:List UInt8}{p:Nat}{x:Int}(hp:p<=b.length)(h:b.drop p=n8 x++r)(h0:0<=x/\x<9223372036854775808):∃ q,Ey b p 0 8=(x,q,0)/\q<=b.length/\b.drop q=r:=by
 obtain⟨h1,h2,h3⟩:=FZ (n:=8) (x:=x) hp zaa h zaa zaa zaa
 exact⟨_,h1,h2,h3⟩
theorem Pg{b:List UInt8}{p:Nat}{x:Int}(hp:p<=b.length)(h:b.drop p=UInt8.ofInt x::r)(h0:0<=x/\x<256):Ey b p 0 1=(x,p+1,0)/\p+1<=b.length/\b.drop (p+1)=r :=
 FZ (n:=1) (x:=x) hp zaa (by rw[h,WZ];rfl) zaa zaa zaa
theorem A3h(l1 l2 l3 l4 l5 l6:Int)(hac:0<=ac/\ac<=3)(hsd:sd.length=3)(hau:au.length=4)(hsm:∀ x∈sd,x.length<=1000)(ham:∀ x∈au,x.length<=1000)(hen:en.length<=1000)(hre:0<=re/\re<=1000000)(hrs:0<=rs/\rs<=1000000)(hck:0<=ck/\ck<=2000000000000)(hsu:0<=su/\su<=1000000)(hmc:0<=mc/\mc<=2000000000000)(hl:kP l1 l2 l3 l4 l5 l6):
  Y E0 (.call 51 [.sl .u8 (encS sd au en ac re rs ck od [] su mc [] l1 l2 l3 l4 l5 l6 [])] [])=some (.ret (.tup [.agg (Rt sd au en ac re rs ck od [] su mc [] l1 l2 l3 l4 l5 l6 []),.i 0]) []):=by
 obtain⟨s0,s1,s2,rfl⟩:∃ s0 s1 s2,sd=[s0,s1,s2]:=by
  match sd,hsd with
  | [a,b,c],_=>exact⟨a,b,c,rfl⟩
 obtain⟨a0,a1,a2,a3,rfl⟩:∃ a0 a1 a2 a3,au=[a0,a1,a2,a3]:=by
  match au,hau with
  | [a,b,c,d],_=>exact⟨a,b,c,d,rfl⟩
 have m0:=hsm s0 zak
 have m1:=hsm s1 zak
 have m2:=hsm s2 zak
 have n0:=ham a0 zak
 have n1:=ham a1 zak
 have n2:=ham a2 zak
 have n3:=ham a3 zak
 obtain⟨z1,z2,z3,z4,z5,z6,z7,z8,z9,z10,z11,z12⟩:=hl
 generalize hb:encS [s0,s1,s2] [a0,a1,a2,a3] en ac re rs ck od [] su mc [] l1 l2 l3 l4 l5 l6 []=b
 have e0:b.drop 0=UInt8.ofInt 1::UInt8.ofInt ac::(bl s0++(bl s1++(bl s2++(bl a0++(bl a1++(bl a2++(bl a3++(bl en++(n8 re++(n8 rs++(n8 ck++(UInt8.ofInt (if od then 1 else 0)::(bl (0::n8 su)++(n8 mc++(UInt8.ofInt 0::(n8 l1++(n8 l2++(n8 l3++(n8 l4++(n8 l5++(n8 l6++(UInt8.ofInt 0::[])))))))))))))))))))))):=by
  rw[List.drop_zero,<-hb]
  delta encS
  rw[Vl,show zf od=UInt8.ofInt (if od then 1 else 0) from by cases od<;>rfl]
  simp only[List.append_assoc,List.cons_append,List.nil_append,List.append_nil,List.flatMap_nil,List.getD_cons_zero,List.getD_cons_succ,List.length_nil]
  rfl
 have hlen:b.length<=20000:=by
  have:=congrArg List.length e0
  simp only[List.drop_zero,List.length_cons,List.length_append,Ce,Bq,List.length_nil] at this
  omega
 obtain⟨g0,q0,d0⟩:=Pg (Nat.zero_le _) e0 zaa
 obtain⟨g1,q1,d1⟩:=Pg q0 d0 zaa
 obtain⟨pa,ga,qa,da⟩:=OW q1 d1 zaa
 obtain⟨pb,gb,qb,db⟩:=OW qa da zaa
 obtain⟨pA,gc,qA,dA⟩:=OW qb db zaa
 obtain⟨pd,gd,qd,dd⟩:=OW qA dA zaa
 obtain⟨pe,ge,qe,de⟩:=OW qd dd zaa
 obtain⟨pf,gf,qf,df⟩:=OW qe de zaa
 obtain⟨pB,gg,qB,dB⟩:=OW qf df zaa
 obtain⟨pC,gC,qC,dC⟩:=OW qB dB zaa
 obtain⟨pD,gD,qD,dD⟩:=MO qC dC zaa
 obtain⟨pE,gE,qE,dE⟩:=MO qD dD zaa
 obtain⟨pF,gF,qF,dF⟩:=MO qE dE zaa
 obtain⟨gG,qG,dG⟩:=Pg qF dF (by cases od<;>simp)
 obtain⟨pH,gH,qH,dH⟩:=OW qG dG (by rw[List.length_cons,Bq];omega)
 obtain⟨pI,gI,qI,dI⟩:=MO qH dH zaa
 obtain⟨gJ,qJ,dJ⟩:=Pg qI dI zaa
 obtain⟨p1,k1,r1,t1⟩:=MO qJ dJ zaa
 obtain⟨p2,k2,r2,t2⟩:=MO r1 t1 zaa
 obtain⟨p3,k3,r3,t3⟩:=MO r2 t2 zaa
 obtain⟨p4,k4,r4,t4⟩:=MO r3 t3 zaa
 obtain⟨p5,k5,r5,t5⟩:=MO r4 t4 zaa
 obtain⟨pL,k6,r6,t6⟩:=MO r5 t5 zaa
 obtain⟨gM,qM,dM⟩:=Pg r6 t6 zaa
 refine A6L b [s0,s1,s2] [a0,a1,a2,a3] en ac re rs ck od su mc l1 l2 l3 l4 l5 l6 (if od then 1 else 0) pA pB pC pD pE pF (pF+1) pH pI (pI+1) pL (pL+1) zaa zaa hac.2 rfl rfl hre.2 hrs.2 hck.2 (by cases od<;>simp) ?_ hsu hmc.2 g0 g1 ⟨pa,ga,pb,gb,pA,gc,rfl⟩ ⟨pd,gd,pe,ge,pf,gf,pB,gg,rfl⟩ gC gD gE gF gG gH gI gJ ⟨by omega,p1,k1,by omega,p2,k2,by omega,p3,k3,by omega,p4,k4,by omega,p5,k5,by omega,pL,k6,rfl⟩ gM (OI qM dM) qM
 cases od
 ·exact Jc zad
 ·exact Ff rfl
end
section
attribute [local irreducible] Bl CQ CS Bo Bg Ar CU Dw EN Dy EC Bf BU Bv Bz and' C9 CB BK Au BA BL BN Aa Ad AP AZ CV Dq CW DI CE BP BM BF BG BB AU BC Ae Ap Ai CX BH Bh Ba BO CG CY CJ fits CZ CO A8 AA Ac
theorem A07(u v w:UInt8)(hb:5<=b.length/\b.length<=2048)(h0:Ai b 0=some 83)(h1:Ai b 1=some 87)(h2:Ai b 2=some u)(h3:Ai b 3=some v)(h4:Ai b 4=some w)(hl:Ar .or (Bf (Dq u) (UInt64.ofNat 8).toNat) (Dq v)=(b.length:Int)):Y E0 (.call 157 [.sl .u8 b] [])=some (.ret (.tup [.i (Dq w),.i 0]) []):=by
 refine tq ?_
 rw[h0]
 conv=>lhs;whnf
 refine tq ?_
 rw[h1]
 conv=>lhs;whnf
 refine tq ?_
 rw[h2]
 refine tq ?_
 refine tq ?_
 rw[h3]
 conv=>lhs;whnf
 refine tq ?_
 rw[h4]
 conv=>lhs;whnf
 rw[AO]
 conv=>lhs;whnf
def A3z(b:List UInt8):Nat->List Int->Nat->Prop
 | p,[],q=>q=p
 | p,x::xs,q=>∃ p',Ey b p 0 2=(x,p',0)/\A3z b p' xs q
theorem A40{b:List UInt8}:∀ {l:List Int} {p q:Nat},p<=b.length->A3z b p l q->q<=b.length
 | [],p,q,hp,h=>by obtain rfl:q=p:=h;exact hp
 | x::l,p,q,hp,⟨p',h1,h2⟩=>A40 (FH hp h1) h2
def A41(b:List UInt8):Nat->List (El AQ)->Nat->Prop
 | p,[],q=>q=p
 | p,x::xs,q=>∃ p1,Ey b p 0 2=(x.1,p1,0)/\∃ p2,JK b p1 0 128=(x.2.1,p2,0)/\∃ p3,JK b p2 0 128=(x.2.2,p3,0)/\A41 b p3 xs q
theorem A42{b:List UInt8}:∀ {l:List (El AQ)} {p q:Nat},p<=b.length->A41 b p l q->q<=b.length
 | [],p,q,hp,h=>by obtain rfl:q=p:=h;exact hp
 | x::l,p,q,hp,⟨p1,h1,p2,h2,p3,h3,h4⟩=>A42 (Kt (Kt (FH hp h1) h2) h3) h4
def A43(b:List UInt8):Nat->List Int->Nat->Prop
 | p,[],q=>q=p
 | p,x::xs,q=>x<=1099511627776/\∃ p',Ey b p 0 8=(x,p',0)/\A43 b p' xs q
theorem A44{b:List UInt8}:∀ {l:List Int} {p q:Nat},p<=b.length->A43 b p l q->q<=b.length
 | [],p,q,hp,h=>by obtain rfl:q=p:=h;exact hp
 | x::l,p,q,hp,⟨_,p',h1,h2⟩=>A44 (FH hp h1) h2
def tK(b:List UInt8)(m:Int):Nat->List (List UInt8)->Nat->Prop
 | p,[],q=>q=p
 | p,x::xs,q=>∃ p',JK b p 0 m=(x,p',0)/\tK b m p' xs q
theorem A45{b:List UInt8}{m:Int}:∀ {l:List (List UInt8)} {p q:Nat},p<=b.length->tK b m p l q->q<=b.length
 | [],p,q,hp,h=>by obtain rfl:q=p:=h;exact hp
 | x::l,p,q,hp,⟨p',h1,h2⟩=>A45 (Kt hp h1) h2
theorem mV(c:Int)(b:List UInt8)(m:Nat)(hb:b.length<=1000000)(hm:m<=10)(n1 n2 n3:Int):∀(k j:Nat) (l xs:List Int) (p q:Nat),j+k=m->xs.length=k->p<=b.length->l.length+k<=20->A3z b p xs q ->
  Y E0 (.loop 129 0 0 4 [(2,.pa 0 0),(7,.i n1),(8,.i n2),(9,.i n3),(11,.pa 1 0),(12,.pa 2 0),(42,.i (m:Int)),(43,.i (j:Int))] [(0,some (.var [.i 0,.nil,.nil,.nil,.nil])),(1,some (.var [.sl .u8 b,.i (p:Int),.i 0])),(2,some (.var [.i c,.nm 3,.nil,.nil,.nil])),(3,some (.row 3 .i64 l))])
   = some (.fin (.exit 0) 4 [(2,.pa 0 0),(7,.i n1),(8,.i n2),(9,.i n3),(11,.pa 1 0),(12,.pa 2 0)] [(0,some (.var [.i 0,.nil,.nil,.nil,.nil])),(1,some (.var [.sl .u8 b,.i (q:Int),.i 0])),(2,some (.var [.i c,.nm 3,.nil,.nil,.nil])),(3,some (.row 3 .i64 (l++xs)))])
 | 0,j,l,[],p,q,hj,hx,hp,hl,h=>by
  obtain rfl:j=m:=zaa
  obtain rfl:q=p:=h
  rw[List.append_nil]
  rw[AO];conv=>lhs;whnf
  refine tq ?_
  with_reducible rfl
 | k+1,j,l,x::xs,p,q,hj,hx,hp,hl,h=>by
  obtain⟨q1,h1,h2⟩:=h
  have g:=G8 b p 0 2 zaa hp
  rw[h1] at g
  have ih:=mV c b m hb hm n1 n2 n3 k (j+1) (l++[x]) xs q1 q zaa zaZ (FH hp h1) zat h2
  rw[show((j+1:Nat):Int)=(j:Int)+1 from by omega,List.append_assoc,List.singleton_append] at ih
  rw[<-Am l [x]] at ih
  rw[AO];conv=>lhs;whnf
  refine tq ?_
  rw[g]
  refine tq ?_
  exact ih
theorem mW(c:Int)(hs:List Int)(b:List UInt8)(m:Nat)(hb:b.length<=1000000)(hm:m<=10)(n2 n3:Int):∀(k j:Nat) (l xs:List (El AQ)) (p q:Nat),j+k=m->xs.length=k->p<=b.length->l.length+k<=20->A41 b p xs q ->
  Y E0 (.loop 129 1 0 5 [(2,.pa 0 0),(8,.i n2),(9,.i n3),(11,.pa 1 0),(12,.pa 2 0),(53,.i (m:Int)),(54,.i (j:Int))] [(0,some (.var [.i 0,.nil,.nil,.nil,.nil])),(1,some (.var [.sl .u8 b,.i (p:Int),.i 0])),(2,some (.var [.i c,.nm 3,.nm 4,.nil,.nil])),(3,some (.row 3 .i64 hs)),(4,some (.row 68 AQ l))])
   = some (.fin (.exit 2) 5 [(2,.pa 0 0),(8,.i n2),(9,.i n3),(11,.pa 1 0),(12,.pa 2 0)] [(0,some (.var [.i 0,.nil,.nil,.nil,.nil])),(1,some (.var [.sl .u8 b,.i (q:Int),.i 0])),(2,some (.var [.i c,.nm 3,.nm 4,.nil,.nil])),(3,some (.row 3 .i64 hs)),(4,some (.row 68 AQ (l++xs)))])
 | 0,j,l,[],p,q,hj,hx,hp,hl,h=>by
  obtain rfl:j=m:=zaa
  obtain rfl:q=p:=h
  rw[List.append_nil]
  rw[AO];conv=>lhs;whnf
  refine tq ?_
  with_reducible rfl
 | k+1,j,l,(x1,x2,x3)::xs,p,q,hj,hx,hp,hl,h=>by
  obtain⟨q1,h1,q2,h2,q3,h3,h4⟩:=h
  have k1:=FH hp h1
  have k2:=Kt k1 h2
  have k3:=Kt k2 h3
  have g1:=G8 b p 0 2 zaa hp
  have g2:=Tu b q1 0 128 zaa k1
  have g3:=Tu b q2 0 128 zaa k2
  rw[h1] at g1;rw[h2] at g2;rw[h3] at g3
  have ih:=mW c hs b m hb hm n2 n3 k (j+1) (l++[(x1,x2,x3)]) xs q3 q zaa zaZ k3 zat h4
  rw[show((j+1:Nat):Int)=(j:Int)+1 from by omega,List.append_assoc,List.singleton_append] at ih
  rw[<-Am l [(x1,x2,x3)]] at ih
  rw[AO];conv=>lhs;whnf
  refine tq ?_
  rw[g1]
  refine tq ?_
  rw[g2]
  refine tq ?_
  rw[g3]
  refine tq ?_
  exact ih
theorem mX(c:Int)(hs:List Int)(az:List (El AQ))(b:List UInt8)(m:Nat)(hb:b.length<=1000000)(hm:m<=10)(n3:Int):∀(k j:Nat) (l xs:List Int) (p q:Nat),j+k=m->xs.length=k->p<=b.length->l.length+k<=20->A43 b p xs q ->
  Y E0 (.loop 129 2 0 6 [(2,.pa 0 0),(9,.i n3),(11,.pa 1 0),(12,.pa 2 0),(72,.i (m:Int)),(73,.i (j:Int))] [(0,some (.var [.i 0,.nil,.nil,.nil,.nil])),(1,some (.var [.sl .u8 b,.i (p:Int),.i 0])),(2,some (.var [.i c,.nm 3,.nm 4,.nm 5,.nil])),(3,some (.row 3 .i64 hs)),(4,some (.row 68 AQ az)),(5,some (.row 3 .i64 l))])
   = some (.fin (.exit 4) 6 [(2,.pa 0 0),(9,.i n3),(11,.pa 1 0),(12,.pa 2 0)] [(0,some (.var [.i 0,.nil,.nil,.nil,.nil])),(1,some (.var [.sl .u8 b,.i (q:Int),.i 0])),(2,some (.var [.i c,.nm 3,.nm 4,.nm 5,.nil])),(3,some (.row 3 .i64 hs)),(4,some (.row 68 AQ az)),(5,some (.row 3 .i64 (l++xs)))])
 | 0,j,l,[],p,q,hj,hx,hp,hl,h=>by
  obtain rfl:j=m:=zaa
  obtain rfl:q=p:=h
  rw[List.append_nil]
  rw[AO];conv=>lhs;whnf
  refine tq ?_
  with_reducible rfl
 | k+1,j,l,x::xs,p,q,hj,hx,hp,hl,h=>by
  obtain⟨hx1,q1,h1,h2⟩:=h
  have g:=G8 b p 0 8 zaa hp
  rw[h1] at g
  have ge:=N9 b q1 0
  have ih:=mX c hs az b m hb hm n3 k (j+1) (l++[x]) xs q1 q zaa zaZ (FH hp h1) zat h2
  rw[show((j+1:Nat):Int)=(j:Int)+1 from by omega,List.append_assoc,List.singleton_append] at ih
  rw[<-Am l [x]] at ih
  rw[AO];conv=>lhs;whnf
  refine tq ?_
  rw[g]
  refine tq ?_
  rw[ge]
  refine tq ?_
  exact ih
theorem mY(c:Int)(hs:List Int)(az:List (El AQ))(is:List Int)(b:List UInt8)(m:Nat)(hb:b.length<=1000000)(hm:m<=10):∀(k j:Nat) (l xs:List (List UInt8)) (p q:Nat),j+k=m->xs.length=k->p<=b.length->l.length+k<=20->tK b 1024 p xs q ->
  Y E0 (.loop 129 3 0 7 [(2,.pa 0 0),(11,.pa 1 0),(12,.pa 2 0),(104,.i (m:Int)),(105,.i (j:Int))] [(0,some (.var [.i 0,.nil,.nil,.nil,.nil])),(1,some (.var [.sl .u8 b,.i (p:Int),.i 0])),(2,some (.var [.i c,.nm 3,.nm 4,.nm 5,.nm 6])),(3,some (.row 3 .i64 hs)),(4,some (.row 68 AQ az)),(5,some (.row 3 .i64 is)),(6,some (.row 22 (.sl .u8) l))])
   = some (.fin (.exit 6) 7 [(2,.pa 0 0),(11,.pa 1 0),(12,.pa 2 0)] [(0,some (.var [.i 0,.nil,.nil,.nil,.nil])),(1,some (.var [.sl .u8 b,.i (q:Int),.i 0])),(2,some (.var [.i c,.nm 3,.nm 4,.nm 5,.nm 6])),(3,some (.row 3 .i64 hs)),(4,some (.row 68 AQ az)),(5,some (.row 3 .i64 is)),(6,some (.row 22 (.sl .u8) (l++xs)))])
 | 0,j,l,[],p,q,hj,hx,hp,hl,h=>by
  obtain rfl:j=m:=zaa
  obtain rfl:q=p:=h
  rw[List.append_nil]
  rw[AO];conv=>lhs;whnf
  refine tq ?_
  with_reducible rfl
 | k+1,j,l,x::xs,p,q,hj,hx,hp,hl,h=>by
  obtain⟨q1,h1,h2⟩:=h
  have g:=Tu b p 0 1024 zaa hp
  rw[h1] at g
  have ih:=mY c hs az is b m hb hm k (j+1) (l++[x]) xs q1 q zaa zaZ (Kt hp h1) zat h2
  rw[show((j+1:Nat):Int)=(j:Int)+1 from by omega,List.append_assoc,List.singleton_append] at ih
  rw[<-Am l [x]] at ih
  rw[AO];conv=>lhs;whnf
  refine tq ?_
  rw[g]
  refine tq ?_
  exact ih
theorem A6U(x:List UInt8)(c nb:Int)(hs:List Int)(az:List (El AQ))(is:List Int)(bs:List (List UInt8))(p1 p2 p3 p4 p5:Nat)(hst:Y E0 (.call 157 [.sl .u8 b] [])=some (.ret (.tup [.i c,.i 0]) []))(hx:List.take (Ap b-5).toNat (List.drop (Int.toNat 5) b)=x)(hb:5<=b.length/\b.length<=2048)(hsh:Y E0 (.call 158 [.i c] [])=some (.ret (.tup [.i (hs.length:Int),.i (az.length:Int),.i (is.length:Int),.i nb,.b true]) []))(hct:Y E0 (.call 159 [.i (bs.length:Int),.i nb] [])=some (.ret (.b true) []))(hl:hs.length<=10)(hal:az.length<=10)(hil:is.length<=10)(hbl:bs.length<=10)(g1:A3z x 0 hs p1)(g2:A41 x p1 az p2)(g3:A43 x p2 is p3)(g4:Ey x p3 0 1=((bs.length:Int),p4,0))(g5:tK x 1024 p4 bs p5)(g6:VT x p5 0=0):Y E0 (.call 129 [.sl .u8 b] [])=some (.ret (.tup [rq c hs az is bs,.i 0]) []):=by
 have hxl:x.length<=2048:=by rw[<-hx,List.length_take,List.length_drop];omega
 have k1:=A40 (Nat.zero_le _) g1
 have k2:=A42 k1 g2
 have k3:=A44 k2 g3
 have k4:=FH k3 g4
 have k5:=A45 k4 g5
 have l0:=fun n1 n2 n3=>mV c x hs.length zaa hl n1 n2 n3 hs.length 0 [] hs 0 p1 zaa rfl zaa zat g1
 have l1:=fun n2 n3=>mW c hs x az.length zaa hal n2 n3 az.length 0 [] az p1 p2 zaa rfl k1 zat g2
 have l2:=fun n3=>mX c hs az x is.length zaa hil n3 is.length 0 [] is p2 p3 zaa rfl k2 zat g3
 have l3:=mY c hs az is x bs.length zaa hbl bs.length 0 [] bs p4 p5 zaa rfl k4 zat g5
 simp only[List.nil_append,show((0:Nat):Int)=0 from rfl] at l0 l1 l2 l3
 have gu:=G8 x p3 0 1 zaa k3
 rw[g4] at gu
 have ge:=N9 x p4 0
 have gz:=Tt x p5 0 zaa k5
 rw[g6] at gz
 refine tq ?_
 rw[hst]
 refine tq ?_
 rw[hsh]
 refine tq ?_
 rw[PW _ Aq]
 refine tq ?_
 (simp only[hx,Nat.reduceAdd]);rw[l0]
 refine tq ?_
 (simp only[Nat.reduceAdd]);rw[l1]
 refine tq ?_
 (simp only[Nat.reduceAdd]);rw[l2]
 refine tq ?_
 rw[gu]
 refine tq ?_
 rw[ge]
 refine tq ?_
 rw[hct]
 conv=>lhs;whnf
 rw[DF];conv=>lhs;whnf
 rw[AO]
 conv=>lhs;whnf
 try dsimp -iota -beta -eta -zeta only
 rw[EQ]
 (simp only[Nat.reduceAdd]);rw[l3]
 refine tq ?_
 rw[gz]
 exact tq rfl
end
end Go.Proofs.YtanagnimhaemgaaGreatDoor
