/-
  Own texts, laid together for this claim: contracts of functions of the program and its references, used by the statements of this seat.
-/
import Derived.Test.YtanagnimhaemgaaGreatDoorKtac
import Derived.Test.YtanagnimhaemgaaGreatDoorKtad
import Derived.Test.YtanagnimhaemgaaGreatDoorKtaf
import Derived.Test.YtanagnimhaemgaaGreatDoorKtag
import Derived.Test.YtanagnimhaemgaaGreatDoorKtah
import Derived.Test.YtanagnimhaemgaaGreatDoorKtai
import Derived.Test.YtanagnimhaemgaaGreatDoorKtaj
set_option linter.all false
set_option maxHeartbeats 40000000
set_option maxRecDepth 100000
namespace Go.Proofs.YtanagnimhaemgaaGreatDoor
open Go Go.Ax Go.Eng
variable {x0 x1 p0 p1:List UInt8}{q0 q1:Int}(ar:List (List UInt8))(leaf c:Int)(seed:List UInt8)(q wr:Int)(p:List UInt8)(cu to a:Int)
section
attribute [local irreducible] Bl CS CU CJ Bh Ak CV Du EN E5 EH Be BN CE Bz and' CG CO BC Ag Ar BF BG AY Aa AP AX CW Dv CX DT C9 BJ BD BA BB Au AQ Az Ac Aw Ah CY BL Bi BR BI CB CZ CP fits Cb CQ A8 AA AZ
attribute [local irreducible] BK
theorem A30:Y E0 (.call 77 [.i 4] [])=some (.ret (.agg [.sl (.sl .u8) [[],[],[],[]],.i 0,.i 0,.i 0,.b false]) []):=by
 have he:BR (min (max 4 0) 64:Int) ([]:List UInt8)=[[],[],[],[]]:=by rw[FO];rfl
 refine tq ?_;rw[he]
theorem Uh(of:Bool):Y E0 (.call 49 [.agg [.sl (.sl .u8) ar,.i wr,.i cu,.i to,.b of]] [])=some (.ret (.agg [.sl (.sl .u8) ar,.i 0,.i 0,.i 0,.b false]) []):=by
 exact tq rfl
theorem UA(of:Bool)(h:0<=a/\a<ar.length)(hl:ar.length<=1000):Y E0 (.call 133 [.agg [.sl (.sl .u8) ar,.i wr,.i cu,.i to,.b of],.i a] [])=some (.ret (.b true) []):=by
 exact tq rfl
theorem lJ(old data:List UInt8)(hd:data.length<=4294900000):Y E0 (.call 154 [.sl .u8 old,.i (Aw data),.pa 0 0,.pa 1 0] [.var [.sl .u8 data],.var [.b false]])=some (.ret (.sl .u8 data) [some (.var [.sl .u8 data]),some (.var [.b false])]):=by
 rw[AC];refine tq ?_
 simp
theorem A31(j k:Nat)(x:List UInt8)(h:ar[j]?=some x)(hj:j+(k+1)=ar.length):BL (ar.take j++List.replicate (k+1) []) (j:Int) x=ar.take (j+1)++List.replicate k []:=by
 rw[EU,List.take_add_one,h,Int.toNat_natCast,List.set_append,if_neg zaW,List.length_take,Nat.min_eq_left zaa,Nat.sub_self,List.append_assoc]
 rfl
theorem O7(ar:List (List UInt8))(hl:ar.length<=1000)(wr cu to a n e:Int)(of b:Bool)(data:List UInt8):∀(k j:Nat),j+k=ar.length ->
  Y E0 (.loop 153 0 2 5 [(1,.i a),(3,.fn 154 [] [.pa 0 0,.pa 1 0]),(4,.pa 2 0),(8,.pa 3 0),(10,.i n),(11,.i e),(12,.nm 4),(51,.i (ar.length:Int)),(52,.i (j:Int))] [(0,some (.var [.sl .u8 data])),(1,some (.var [.b b])),(2,some (.var [.sl (.sl .u8) ar,.i wr,.i cu,.i to,.b of])),(3,some (.var [.nil,.i 0,.i 0,.i 0,.b false])),(4,some (.row 22 (.sl .u8) (ar.take j++List.replicate k [])))])
   = some (.fin (.exit 1) 5 [(1,.i a),(3,.fn 154 [] [.pa 0 0,.pa 1 0]),(4,.pa 2 0),(8,.pa 3 0),(10,.i n),(11,.i e),(12,.nm 4)] [(0,some (.var [.sl .u8 data])),(1,some (.var [.b b])),(2,some (.var [.sl (.sl .u8) ar,.i wr,.i cu,.i to,.b of])),(3,some (.var [.nil,.i 0,.i 0,.i 0,.b false])),(4,some (.row 22 (.sl .u8) ar))])
 | 0,j,hj=>by
  obtain rfl:j=ar.length:=zaa
  rw[List.take_length,List.replicate_zero,List.append_nil]
  exact tq rfl
 | k+1,j,hj=>by
  obtain⟨x,hx⟩:∃ x,ar[j]?=some x:=⟨ar[j]'zaa,List.getElem?_eq_getElem zaa⟩
  have hg:Ah ar (j:Int)=some x:=by rw[D5];exact hx
  have ih:=O7 ar hl wr cu to a n e of b data k (j+1) zaa
  rw[show((j+1:Nat):Int)=(j:Int)+1 from by omega,<-A31 ar j k x hx hj] at ih
  rw[AU];conv=>lhs;whnf
  rw[Dn zaa]
  conv=>lhs;whnf
  rw[hg];refine tq ?_;exact ih
theorem A32(data:List UInt8)(hl:ar.length<=1000)(ha:0<=a/\a<ar.length)(hw:0<=wr/\wr<=1000000)(hd:data.length<=65536):Y E0 (.call 153 [.agg [.sl (.sl .u8) ar,.i wr,.i 0,.i to,.b false],.i a,.sl .u8 data,.fn 154 [] [.pa 0 0,.pa 1 0]] [.var [.sl .u8 data],.var [.b false]])=some (.ret (.tup [.agg [.sl (.sl .u8) (BL ar a data),.i (wr+1),.i 0,.i to,.b false],.i 0]) [some (.var [.sl .u8 data]),some (.var [.b false])]):=by
 have h1:Aw (BR (Aw ar) ([]:List UInt8))=(ar.length:Int):=by rw[FO,AC,AC];simp
 have he:BR (Aw ar) ([]:List UInt8)=ar.take 0++List.replicate ar.length []:=by rw[FO,AC];simp
 have hl:=O7 ar hl (wr+1) 0 to a (Aw data) 0 false false data ar.length 0 zaa
 rw[show((0:Nat):Int)=0 from rfl,<-he] at hl;refine tq ?_;rw[UA _ _ _ _ _ _ Am Am];refine tq ?_;rw[h1,hl]
 conv=>lhs;whnf
 rw[DZ zaa]
 conv=>lhs;whnf
 try dsimp -iota -beta -eta -zeta only
 rw[Aj];rw[lJ _ _ Am]
 conv=>lhs;whnf
 rw[Jk zaa]
 conv=>lhs;whnf
 rw[DZ zaa]
 conv=>lhs;whnf
theorem uS(data:List UInt8)(hl:ar.length<=1000)(ha:0<=a/\a<ar.length)(hw:0<=wr/\wr<=1000000)(hd:data.length<=65536):Y E0 (.call 119 [.agg [.sl (.sl .u8) ar,.i wr,.i 0,.i to,.b false],.i a,.sl .u8 data] [])=some (.ret (.tup [.agg [.sl (.sl .u8) (BL ar a data),.i (wr+1),.i 0,.i to,.b false],.i 0]) []):=by
 have h0:Du (wr+1) 0=false:=JK zaa
 rw[AU]
 conv=>lhs;whnf
 rw[DJ];conv=>lhs;whnf
 try dsimp -iota -beta -eta -zeta only
 rw[D7 zaa];rw[Aj];rw[h0,A32 _ _ _ _ _ hl ha hw hd];exact tq rfl
theorem SN(hp:p.length<=1000000):Y E0 (.call 118 [.i q,.sl .u8 p] [])=some (.ret (.sl .u8 (Lj q p)) []):=by
 refine tq ?_;rw[DN _ _ _ Am];refine tq ?_;rw[FB _ _ Am Am];refine tq ?_;rw[Lj,<-List.nil_append (n8 q),<-Kv]
theorem Po:Y E0 (.call 88 [.i 0] [])=some (.ret (.b true) []):=by
 exact tq rfl
theorem Wh(q:Int)(p:List UInt8)(hl:ar.length<=1000)(ha:2<=ar.length)(hw:0<=wr/\wr<=1000000)(hp:p.length<=60000)(hq:1<=q/\q<=1000000):Y E0 (.call 76 [.agg [.sl (.sl .u8) ar,.i wr,.i 0,.i to,.b false],.i 0,.i q,.sl .u8 p] [])=some (.ret (.tup [.agg [.sl (.sl .u8) (BL ar (q%2) (Gv q p)),.i (wr+1),.i 0,.i to,.b false],.i 0]) []):=by
 refine tq ?_;rw[Po];refine tq ?_;rw[SN _ _ Am];refine tq ?_;rw[DN _ _ _ zay];refine tq ?_;rw[DN _ _ _ zay]
 conv=>lhs;whnf
 try dsimp -iota -beta -eta -zeta only
 rw[JK zaa]
 conv=>lhs;whnf
 rw[EF zay]
 conv=>lhs;whnf
 try dsimp -iota -beta -eta -zeta only
 rw[O3 zaa];rw[D7 zaa];rw[Aj];rw[uS _ _ _ _ _ zaa zaa zaa zay];refine tq ?_;rw[Int.zero_add,Gv,Kv,pq,Ap,AC]
theorem YP(b p:List UInt8)(q w:Int)(hb:b.length<=1000000)(hq:1<=q/\q<=1000000)(hw:q%2=w){n:Nat}(g0:XE b 0 0 32=(Lj q p,32,0))(g1:IZ b 32 0 8=(q,40,0))(g2:IZ b 40 0 4=((n:Int),44,0))(g3:XE b 44 0 (n:Int)=(p,44+n,0))(hp:p.length=n)(hn:44+n=b.length):Y E0 (.call 90 [.sl .u8 b,.i w] [])=some (.ret (.tup [.sl .u8 p,.i q,.b true]) []):=by
 have h0:=QZ b 0 0 32 zaa zaa zaa
 have h1:=Fa b 32 0 8 zaa zaa
 have h2:=Fa b 40 0 4 zaa zaa
 have h3:=QZ b 44 0 n zaa zaa zaa
 rw[g0] at h0;rw[g1] at h1;rw[g2] at h2;rw[g3] at h3;refine tq ?_;rw[U6 _ Am];refine tq ?_;rw[show Y E0 (.call 134 [.pa 0 0,.i 32] [.var [.sl .u8 b,.i 0,.i 0]])=_ from h0];refine tq ?_;rw[h1];refine tq ?_;rw[h2];refine tq ?_;rw[h3];refine tq ?_;rw[ML ..];refine tq ?_;rw[SN _ _ Am];exact tq rfl
theorem Wi(w:Int):Y E0 (.call 90 [.sl .u8 [],.i w] [])=some (.ret (.tup [.sl .u8 [],.i 0,.b false]) []):=by
 have h0:=QZ [] 0 0 32 zac zac zaa
 rw[show XE [] 0 0 32=([],0,2) from by decide] at h0
 have h1:=Fa [] 0 2 8 zac zac
 rw[show IZ [] 0 2 8=(0,0,2) from by decide] at h1
 have h2:=Fa [] 0 2 4 zac zac
 rw[show IZ [] 0 2 4=(0,0,2) from by decide] at h2
 have h3:=QZ [] 0 2 0 zac zac zaa
 rw[show XE [] 0 2 0=([],0,2) from by decide] at h3;refine tq ?_;rw[U6 _ Am];refine tq ?_;rw[show Y E0 (.call 134 [.pa 0 0,.i 32] [.var [.sl .u8 [],.i 0,.i 0]])=_ from h0];refine tq ?_;rw[Fa _ _ _ _ Am Am];refine tq ?_;rw[Fa _ _ _ _ Am Am];refine tq ?_;rw[QZ _ _ _ _ Am Am Am];refine tq ?_;rw[ML ..];exact tq rfl
theorem uT{b p:List UInt8}{q:Int}(hb:b=Gv q p)(hp:p.length<=60000)(hq:1<=q/\q<=1000000):XE b 0 0 32=(Lj q p,32,0)/\IZ b 32 0 8=(q,40,0)/\IZ b 40 0 4=((p.length:Int),44,0)/\XE b 44 0 (p.length:Int)=(p,44+p.length,0)/\44+p.length=b.length:=by
 have hl:b.length=44+p.length:=by rw[hb,Cm]
 have e0:b.drop 0=Lj q p++(n8 q++(n4 (p.length:Int)++(p++[]))):=by rw[hb,Gv];simp
 obtain⟨a0,a1,a2⟩:=VD (n:=32) zaa e0 (Bg q p)
 obtain⟨b0,b1,b2⟩:=Kr (n:=8) (x:=q) a1 zaa a2 zaa zaa zaa
 obtain⟨c0,c1,c2⟩:=Kr (n:=4) (x:=(p.length:Int)) b1 zaa b2 zaa zaa zar
 obtain⟨d0,d1,d2⟩:=VD (n:=p.length) c1 c2 rfl;exact⟨a0,b0,c0,d0,by omega⟩
theorem MO(q w:Int)(hp:p.length<=60000)(hq:1<=q/\q<=1000000)(hw:q%2=w):Y E0 (.call 90 [.sl .u8 (Gv q p),.i w] [])=some (.ret (.tup [.sl .u8 p,.i q,.b true]) []):=by
 obtain⟨h0,h1,h2,h3,h4⟩:=uT (b:=Gv q p) rfl hp hq;exact YP (Gv q p) p q w zaa hq hw h0 h1 h2 h3 rfl h4
def Q5(ar:List (List UInt8))(q:Int)(p:List UInt8):Prop:=ar.length=4/\1<=q/\q<=900000/\p.length<=60000/\ar[(q%2).toNat]?=some (Gv q p)/\(ar[((q+1)%2).toNat]?=some []\/∃ p',p'.length<=60000/\2<=q/\ar[((q+1)%2).toNat]?=some (Gv (q-1) p'))
theorem YQ{x:List UInt8}(hl:ar.length<=1000)(ha:0<=a/\a<ar.length)(hg:ar[a.toNat]?=some x)(hx:x.length<=1000000):Y E0 (.call 89 [.agg [.sl (.sl .u8) ar,.i wr,.i cu,.i to,.b false],.i a] [])=some (.ret (.tup [.sl .u8 x,.i 0]) []):=by
 have hg:Ah ar a=some x:=by rw[KR,lget0,if_pos ha.1];exact hg
 refine tq ?_;rw[UA _ _ _ _ _ _ Am Am];refine tq ?_;rw[hg];exact tq rfl
theorem Wj(hl:ar.length=4)(h0:ar[(0:Int).toNat]?=some x0)(h1:ar[(1:Int).toNat]?=some x1)(b0:x0.length<=1000000)(b1:x1.length<=1000000):Y E0 (.loop 50 0 0 2 [(1,.i 0),(2,.pa 0 0),(4,.nil),(5,.i 0),(7,.pa 1 0),(18,.i 0)] [(0,some (.var [.sl (.sl .u8) ar,.i wr,.i cu,.i to,.b false])),(1,some (.var [.nil,.nil]))])=some (.fin (.exit 0) 1 [(4,.nil),(5,.i 0),(7,.pa 0 0)] [(0,some (.var [.sl .u8 x0,.sl .u8 x1]))]):=by
 refine tq ?_;rw[YQ _ _ _ _ _ Am Am Am Am];refine tq ?_;refine tq ?_;rw[YQ _ _ _ _ _ Am Am Am Am];refine tq ?_;exact tq rfl
theorem fB{o0:Bool}(e0:Y E0 (.call 90 [.sl .u8 x0,.i 0] [])=some (.ret (.tup [.sl .u8 p0,.i q0,.b o0]) []))(e1:Y E0 (.call 90 [.sl .u8 x1,.i 1] [])=some (.ret (.tup [.sl .u8 p1,.i q1,.b true]) []))(h:0<=q0/\q0<q1/\q1<=1000000)(hz:o0=true->0<q0):
  Y E0 (.loop 50 1 0 0 [(4,.nil),(5,.i 0),(9,.b false),(35,.agg [.sl .u8 x0,.sl .u8 x1]),(36,.i 0)] [])=some (.fin (.exit 2) 0 [(4,.sl .u8 p1),(5,.i q1),(9,.b true)] []):=by
 cases o0 with
 | false =>
  refine tq ?_;rw[e0];refine tq ?_;refine tq ?_;rw[show(0+1:Int)=1 from rfl,e1];refine tq ?_;exact tq rfl
 | true =>
  have hz:=hz rfl
  refine tq ?_;rw[e0];refine tq ?_;refine tq ?_;rw[show(0+1:Int)=1 from rfl,e1];refine tq ?_;exact tq rfl
theorem fC{o1:Bool}(e0:Y E0 (.call 90 [.sl .u8 x0,.i 0] [])=some (.ret (.tup [.sl .u8 p0,.i q0,.b true]) []))(e1:Y E0 (.call 90 [.sl .u8 x1,.i 1] [])=some (.ret (.tup [.sl .u8 p1,.i q1,.b o1]) []))(h:0<=q1/\q1<q0/\q0<=1000000):
  Y E0 (.loop 50 1 0 0 [(4,.nil),(5,.i 0),(9,.b false),(35,.agg [.sl .u8 x0,.sl .u8 x1]),(36,.i 0)] [])=some (.fin (.exit 2) 0 [(4,.sl .u8 p0),(5,.i q0),(9,.b true)] []):=by
 cases o1 with
 | false =>
  refine tq ?_;rw[e0];refine tq ?_;refine tq ?_;rw[show(0+1:Int)=1 from rfl,e1];refine tq ?_;exact tq rfl
 | true =>
  refine tq ?_;rw[e0];refine tq ?_;refine tq ?_;rw[show(0+1:Int)=1 from rfl,e1];refine tq ?_;exact tq rfl
theorem Iz{o0:Bool}(hl:ar.length=4)(h0:ar[(0:Int).toNat]?=some x0)(h1:ar[(1:Int).toNat]?=some x1)(b0:x0.length<=1000000)(b1:x1.length<=1000000)(e0:Y E0 (.call 90 [.sl .u8 x0,.i 0] [])=some (.ret (.tup [.sl .u8 p0,.i q0,.b o0]) []))(e1:Y E0 (.call 90 [.sl .u8 x1,.i 1] [])=some (.ret (.tup [.sl .u8 p1,.i q1,.b true]) []))(h:0<=q0/\q0<q1/\q1<=1000000)(hz:o0=true->0<q0):
  Y E0 (.call 50 [.agg [.sl (.sl .u8) ar,.i wr,.i cu,.i to,.b false],.i 0] [])=some (.ret (.tup [.sl .u8 p1,.i q1,.i 0]) []):=by
 refine tq ?_;rw[Po];refine tq ?_;rw[Wj ar wr cu to hl h0 h1 b0 b1];refine tq ?_;rw[fB e0 e1 h hz];exact tq rfl
theorem J3{o1:Bool}(hl:ar.length=4)(h0:ar[(0:Int).toNat]?=some x0)(h1:ar[(1:Int).toNat]?=some x1)(b0:x0.length<=1000000)(b1:x1.length<=1000000)(e0:Y E0 (.call 90 [.sl .u8 x0,.i 0] [])=some (.ret (.tup [.sl .u8 p0,.i q0,.b true]) []))(e1:Y E0 (.call 90 [.sl .u8 x1,.i 1] [])=some (.ret (.tup [.sl .u8 p1,.i q1,.b o1]) []))(h:0<=q1/\q1<q0/\q0<=1000000):
  Y E0 (.call 50 [.agg [.sl (.sl .u8) ar,.i wr,.i cu,.i to,.b false],.i 0] [])=some (.ret (.tup [.sl .u8 p0,.i q0,.i 0]) []):=by
 refine tq ?_;rw[Po];refine tq ?_;rw[Wj ar wr cu to hl h0 h1 b0 b1];refine tq ?_;rw[fC e0 e1 h];exact tq rfl
theorem KO(wr cu to:Int)(h:Q5 ar q p):Y E0 (.call 50 [.agg [.sl (.sl .u8) ar,.i wr,.i cu,.i to,.b false],.i 0] [])=some (.ret (.tup [.sl .u8 p,.i q,.i 0]) []):=by
 obtain⟨h1,h2,h3,h4,h5,h6⟩:=h
 have hp:=MO p q (q%2) h4 ⟨h2,by omega⟩ rfl
 have hr:=Cm q p
 rcases(by omega:q%2=0\/q%2=1) with hm|hm
 ·rw[hm] at h5 hp;rw[show(q+1)%2=1 from by omega] at h6
  rcases h6 with h6|⟨p',h7,h8,h6⟩
  ·exact J3 ar wr cu to h1 h5 h6 zaa zac hp (Wi 1) zaa
  ·have hr':=Cm (q-1) p'
   exact J3 ar wr cu to h1 h5 h6 zaa zaa hp (MO p' (q-1) 1 h7 zaa zaa) zaa
 ·rw[hm] at h5 hp;rw[show(q+1)%2=0 from by omega] at h6
  rcases h6 with h6|⟨p',h7,h8,h6⟩
  ·exact Iz ar wr cu to h1 h6 h5 zac zaa (Wi 0) hp zaa (fun h=>by cases h)
  ·have hr':=Cm (q-1) p'
   exact Iz ar wr cu to h1 h6 h5 zaa zaa (MO p' (q-1) 0 h7 zaa zaa) hp zaa (fun _=>by omega)
theorem YR{ar:List (List UInt8)}{q:Int}{p p':List UInt8}(h:Q5 ar q p)(hq:q+1<=900000)(hp:p'.length<=60000):Q5 (BL ar ((q+1)%2) (Gv (q+1) p')) (q+1) p':=by
 obtain⟨h1,h2,h3,h4,h5,h6⟩:=h;rw[EU]
 refine⟨by rw[List.length_set];exact h1,by omega,by omega,hp,?_,.inr ⟨p,h4,by omega,?_⟩⟩
 ·rw[List.getElem?_set_self zaa]
 ·rw[List.getElem?_set_ne zaa,show(q+1+1)%2=q%2 from by omega,h5,show q+1-1=q from by omega]
end
section
attribute [local irreducible] Bl CS CU CJ Bh Ak CV Du EN E5 EH Be BN CE Bz and' CG CO BC Ag Ar BF BG AY Aa AP AX CW Dv CX DT C9 BJ BD BA BB Au AQ Az Ac Aw Ah CY BL Bi BR BI CB CZ CP fits Cb CQ A8 AA AZ
theorem A35(p:Int)(x:List UInt8)(hx:x.length<=1000000):Y E0 (.call 351 [.i leaf,.i c,.i p,.sl .u8 x] [])=some (.ret (.sl .u8 (eP leaf c p x)) []):=by
 refine tq ?_;rw[FB _ _ (by simp[Af,fieldsB,JW];omega) zan]
 refine tq ?_;simp only[EM];rfl
theorem A0S(leaf c:Int)(hx:seed.length<=1000000):Y E0 (.call 355 [.sl .u8 seed,.i leaf,.i c] [])=some (.ret (.sl .u8 (Me seed leaf c)) []):=by
 refine tq ?_;rw[show strOf {data := #[99,104,97,105,110]}=[99,104,97,105,110] from rfl,FV _ _ _ _ zaa zac zan];refine tq ?_;simp only[EM];rfl
theorem A0T(x:List UInt8)(hx:x.length<=1000000):Y E0 (.call 329 [.i leaf,.sl .u8 x] [])=some (.ret (.sl .u8 (WU leaf x)) []):=by
 refine tq ?_;rw[FB _ _ (by simp[Af,fieldsB,JW];omega) zan]
 refine tq ?_;simp only[EM];rfl
end
section
attribute [local irreducible] Bl CS CU CJ Bh Ak CV Du EN E5 EH Be BN CE Bz and' CG CO BC Ag Ar BF BG AY Aa AP AX CW Dv CX DT C9 BJ BD BA BB Au AQ Az Ac Aw Ah CY BL Bi BR BI CB CZ CP fits Cb CQ A8 AA AZ
theorem A0U(l:Int):Y E0 (.call 326 [.i l] [])=some (.ret (.b (decide (0<=l/\l<=255))) []):=by
 refine tq ?_
 rcases dm 0 l with hc0|hc0
 ·refine tq ?_
  (congr 3;simp only[Hq,JA,Io,JB,DJ,GZ,AC];first|rfl|(rw[decide_eq_decide];omega)|(simp;omega))
 refine tq ?_
 (rw[decide_eq_false zaa])
theorem A5F(hx:seed.length<=1000000):Y E0 (.call 363 [.i c,.pa 0 0,.pa 1 0] [.var [.sl .u8 seed],.var [.i leaf]])=some (.ret (.sl .u8 (Me seed leaf c)) [some (.var [.sl .u8 seed]),some (.var [.i leaf])]):=by
 refine tq ?_;rw[A0S _ _ _ Am];exact tq rfl
theorem A5G:Y E0 (.call 364 [.i c] [])=some (.ret (.i 0) []):=by
 exact tq rfl
theorem A0V:Y E0 (.call 365 [.i c] [])=some (.ret (.i 15) []):=by
 exact tq rfl
theorem SS(leaf:Int)(seed:List UInt8)(hx:seed.length<=1000000)(acc:List UInt8)(c:Nat)(hc:c<35)(ha:acc.length<=1000):∀(k:Nat) (q:Int) (x:List UInt8),0<=q->((15:Int)-q).toNat=k->x.length<=1000000 ->
  Y E0 (.loop 330 1 2 3 [(0,.i leaf),(1,AV.fn 363 [] [.pa 0 0,.pa 1 0]),(2,AV.fn 364 [] []),(3,AV.fn 365 [] []),(9,.nm 2),(10,.i c),(11,.sl .u8 x),(12,.i q),(13,.i c)] [(0,some (Rs.var [.sl .u8 seed])),(1,some (Rs.var [.i leaf])),(2,some (.row 5 .u8 acc))])=some (.fin (.exit 2) 3 [(0,.i leaf),(1,AV.fn 363 [] [.pa 0 0,.pa 1 0]),(2,AV.fn 364 [] []),(3,AV.fn 365 [] []),(9,.nm 2),(11,.sl .u8 (U7 k leaf c q x)),(13,.i c)] [(0,some (Rs.var [.sl .u8 seed])),(1,some (Rs.var [.i leaf])),(2,some (.row 5 .u8 acc))])
 | 0,q,x,h0,hk,hx'=>by
  refine tq ?_;rw[A0V _];refine tq ?_
  rfl
 | k+1,q,x,h0,hk,hx'=>by
  have ih:=SS leaf seed hx acc c hc ha k (q+1) (eP leaf c q x) zaa zaa (by rw[Jv];omega)
  refine tq ?_;rw[A0V _];refine tq ?_;rw[A35 _ _ _ _ Am];refine tq ?_
  refine(congrArg (Y E0) ?_).trans ih;(try simp only[Rq.loop.injEq,Rq.call.injEq,Rq.ops.injEq,List.cons.injEq,Prod.mk.injEq,AV.i.injEq,AV.sl.injEq,AV.st.injEq,AV.b.injEq,AV.u8.injEq,AV.nm.injEq,Option.some.injEq,Rs.row.injEq,Rs.var.injEq,heq_eq_eq,true_and,and_true]);(try(repeat' apply And.intro));all_goals first|(with_reducible rfl)|omega|(rw[D7 zaa];omega)|(rw[EI zaa];omega)
theorem Ox(leaf:Int)(seed:List UInt8)(hx:seed.length<=1000000):∀(k c:Nat) (acc:List UInt8),c+k=35->acc=QD leaf (fun c=>Me seed leaf c) (fun c=>(0:Int)) (fun c=>(15:Int)) c->acc.length<=16*c ->
  Y E0 (.loop 330 0 2 3 [(0,.i leaf),(1,AV.fn 363 [] [.pa 0 0,.pa 1 0]),(2,AV.fn 364 [] []),(3,AV.fn 365 [] []),(9,.nm 2),(13,.i c)] [(0,some (Rs.var [.sl .u8 seed])),(1,some (Rs.var [.i leaf])),(2,some (.row 5 .u8 acc))])=some (.fin (.exit 0) 2 [(9,.sl .u8 (QD leaf (fun c=>Me seed leaf c) (fun c=>(0:Int)) (fun c=>(15:Int)) 35))] [(0,some (Rs.var [.sl .u8 seed])),(1,some (Rs.var [.i leaf]))])
 | 0,c,acc,hc,he,ha=>by
  obtain rfl:c=35:=zaa
  rw[<-he]
  exact tq rfl
 | k+1,c,acc,hc,he,ha=>by
  have hin:=SS leaf seed hx acc c zaa zaa
  have hst:(Me seed leaf c).length=16:=by exact JD _ _ _
  have hsl:=U8 ((15:Int)-(0:Int)).toNat leaf c ((0:Int)) _ hst
  have ih:=Ox leaf seed hx k (c+1) (acc++U7 ((15:Int)-(0:Int)).toNat leaf c ((0:Int)) (Me seed leaf c)) zaa (by rw[WV,<-he]) (by rw[List.length_append,hsl];omega)
  rw[show((c+1:Nat):Int)=(c:Int)+1 from by omega] at ih
  refine tq ?_;rw[A5F _ _ _ Am];refine tq ?_;rw[A5G _];refine tq ?_;rw[hin _ _ _ zaa rfl zaa];refine tq ?_
  refine(congrArg (Y E0) ?_).trans ih;(try simp only[Rq.loop.injEq,Rq.call.injEq,Rq.ops.injEq,List.cons.injEq,Prod.mk.injEq,AV.i.injEq,AV.sl.injEq,AV.st.injEq,AV.b.injEq,AV.u8.injEq,AV.nm.injEq,Option.some.injEq,Rs.row.injEq,Rs.var.injEq,heq_eq_eq,true_and,and_true]);(try(repeat' apply And.intro));all_goals first|(with_reducible rfl)|omega|(rw[D7 zaa];omega)|(rw[EI zaa];omega)|(rw[Ap];done)|(rw[Ap];rfl)
theorem uX(hx:seed.length<=1000000):Y E0 (.call 330 [.i leaf,AV.fn 363 [] [.pa 0 0,.pa 1 0],AV.fn 364 [] [],AV.fn 365 [] []] [Rs.var [.sl .u8 seed],Rs.var [.i leaf]])=some (.ret (.sl .u8 (QD leaf (fun c=>Me seed leaf c) (fun c=>(0:Int)) (fun c=>(15:Int)) 35)) [some (Rs.var [.sl .u8 seed]),some (Rs.var [.i leaf])]):=by
 have h0:=Ox leaf seed hx 35 0 [] zaa rfl zan
 rw[show((0:Nat):Int)=0 from rfl] at h0;refine tq ?_;exact h0▸rfl
theorem uY(hx:seed.length<=1000000):Y E0 (.call 360 [.sl .u8 seed,.i leaf] [])=some (.ret (.sl .u8 (Ku seed leaf)) []):=by
 refine tq ?_;rw[A0U _];refine tq ?_
 rcases Decidable.em (0<=leaf/\leaf<=255) with hc0|hc0
 ·refine tq ?_;rw[uX _ _ Am]
  conv=>lhs;whnf
  rw[LP (by rfl)];conv=>lhs;whnf
  try dsimp -iota -beta -eta -zeta only
  rw[Aj];rw[A0T _ _ (by rw[YI _ _ _ _ 35 (fun c _=>JD _ _ _) 35 (Nat.le_refl _)];omega)]
  refine tq ?_
  unfold Ku;(repeat(first|rw[if_pos zaw]|rw[if_neg zaw]));try simp only[NO]
 refine tq ?_
 unfold Ku;(repeat(first|rw[if_pos zaw]|rw[if_neg zaw]));try simp only[NO]
end
end Go.Proofs.YtanagnimhaemgaaGreatDoor
