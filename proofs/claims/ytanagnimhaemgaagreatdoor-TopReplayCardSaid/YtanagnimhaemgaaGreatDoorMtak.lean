/-
  Own texts, laid together for this claim: contracts of functions of the program and its references, used by the statements of this seat.
-/
import Derived.Test.YtanagnimhaemgaaGreatDoorMtac
import Derived.Test.YtanagnimhaemgaaGreatDoorMtad
import Derived.Test.YtanagnimhaemgaaGreatDoorMtaf
import Derived.Test.YtanagnimhaemgaaGreatDoorMtag
import Derived.Test.YtanagnimhaemgaaGreatDoorMtah
import Derived.Test.YtanagnimhaemgaaGreatDoorMtai
import Derived.Test.YtanagnimhaemgaaGreatDoorMtaj
set_option linter.all false
set_option maxHeartbeats 40000000
set_option maxRecDepth 100000
namespace Go.Proofs.YtanagnimhaemgaaGreatDoor
open Go Go.Ax Go.Eng
variable {x0 x1 p0 p1:List UInt8}{q0 q1:Int}(ar:List (List UInt8))(leaf c:Int)(seed:List UInt8)(q wr:Int)(p:List UInt8)(cu to a:Int)
section
attribute [local irreducible] BL BM BN BO BP BJ BQ CX Cm CY CW Ba Bc BF BC and' BG Bd Aa Ac Ad Ae Af AL AO AP AQ BR D8 BU D5 Be Bf Ag Ah Ai Aj AB AZ AU Ar BA BV BH BB Au Aw BI Bg BX fits BZ BK A7 A8 AC
attribute [local irreducible] D7
theorem ev_dnew:Y E0 (.call 77 [.i 4] [])=some (.ret (.agg [.sl (.sl .u8) [[],[],[],[]],.i 0,.i 0,.i 0,.b false]) []):=by
 have he:Au (min (max 4 0) 64:Int) ([]:List UInt8)=[[],[],[],[]]:=by rw[QQ];rfl
 refine tq ?_;rw[he]
theorem ev_drestart(of:Bool):Y E0 (.call 49 [.agg [.sl (.sl .u8) ar,.i wr,.i cu,.i to,.b of]] [])=some (.ret (.agg [.sl (.sl .u8) ar,.i 0,.i 0,.i 0,.b false]) []):=by
 exact tq rfl
theorem ev_dthere(of:Bool)(h:0<=a/\a<ar.length)(hl:ar.length<=1000):Y E0 (.call 133 [.agg [.sl (.sl .u8) ar,.i wr,.i cu,.i to,.b of],.i a] [])=some (.ret (.b true) []):=by
 exact tq rfl
theorem ev_dwrite1(old data:List UInt8)(hd:data.length<=4294900000):Y E0 (.call 154 [.sl .u8 old,.i (Ar data),.pa 0 0,.pa 1 0] [.var [.sl .u8 data],.var [.b false]])=some (.ret (.sl .u8 data) [some (.var [.sl .u8 data]),some (.var [.b false])]):=by
 rw[QP];refine tq ?_
 simp
theorem put_set(j k:Nat)(x:List UInt8)(h:ar[j]?=some x)(hj:j+(k+1)=ar.length):BH (ar.take j++List.replicate (k+1) []) (j:Int) x=ar.take (j+1)++List.replicate k []:=by
 rw[UJ,List.take_add_one,h,Int.toNat_natCast,List.set_append,if_neg (by rw[List.length_take];omega),List.length_take,Nat.min_eq_left zf,Nat.sub_self,List.append_assoc]
 rfl
theorem ev_dput_loop(ar:List (List UInt8))(hl:ar.length<=1000)(wr cu to a n e:Int)(of b:Bool)(data:List UInt8):∀(k j:Nat),j+k=ar.length ->
  Y E0 (.loop 153 0 2 5 [(1,.i a),(3,.fn 154 [] [.pa 0 0,.pa 1 0]),(4,.pa 2 0),(8,.pa 3 0),(10,.i n),(11,.i e),(12,.nm 4),(51,.i (ar.length:Int)),(52,.i (j:Int))] [(0,some (.var [.sl .u8 data])),(1,some (.var [.b b])),(2,some (.var [.sl (.sl .u8) ar,.i wr,.i cu,.i to,.b of])),(3,some (.var [.nil,.i 0,.i 0,.i 0,.b false])),(4,some (.row 22 (.sl .u8) (ar.take j++List.replicate k [])))])
   = some (.fin (.exit 1) 5 [(1,.i a),(3,.fn 154 [] [.pa 0 0,.pa 1 0]),(4,.pa 2 0),(8,.pa 3 0),(10,.i n),(11,.i e),(12,.nm 4)] [(0,some (.var [.sl .u8 data])),(1,some (.var [.b b])),(2,some (.var [.sl (.sl .u8) ar,.i wr,.i cu,.i to,.b of])),(3,some (.var [.nil,.i 0,.i 0,.i 0,.b false])),(4,some (.row 22 (.sl .u8) ar))])
 | 0,j,hj=>by
  obtain rfl:j=ar.length:=zf
  rw[List.take_length,List.replicate_zero,List.append_nil]
  exact tq rfl
 | k+1,j,hj=>by
  obtain⟨x,hx⟩:∃ x,ar[j]?=some x:=⟨ar[j]'zf,List.getElem?_eq_getElem zf⟩
  have hg:BA ar (j:Int)=some x:=by rw[lget_nat];exact hx
  have ih:=ev_dput_loop ar hl wr cu to a n e of b data k (j+1) zf
  rw[show((j+1:Nat):Int)=(j:Int)+1 from by omega,<-put_set ar j k x hx hj] at ih
  rw[JB];conv=>lhs;whnf
  rw[fH zf]
  conv=>lhs;whnf
  rw[hg];refine tq ?_;exact ih
theorem ev_dput(data:List UInt8)(hl:ar.length<=1000)(ha:0<=a/\a<ar.length)(hw:0<=wr/\wr<=1000000)(hd:data.length<=65536):Y E0 (.call 153 [.agg [.sl (.sl .u8) ar,.i wr,.i 0,.i to,.b false],.i a,.sl .u8 data,.fn 154 [] [.pa 0 0,.pa 1 0]] [.var [.sl .u8 data],.var [.b false]])=some (.ret (.tup [.agg [.sl (.sl .u8) (BH ar a data),.i (wr+1),.i 0,.i to,.b false],.i 0]) [some (.var [.sl .u8 data]),some (.var [.b false])]):=by
 have h1:Ar (Au (Ar ar) ([]:List UInt8))=(ar.length:Int):=by rw[QQ,QP,QP];simp
 have he:Au (Ar ar) ([]:List UInt8)=ar.take 0++List.replicate ar.length []:=by rw[QQ,QP];simp
 have hl:=ev_dput_loop ar hl (wr+1) 0 to a (Ar data) 0 false false data ar.length 0 zf
 rw[show((0:Nat):Int)=0 from rfl,<-he] at hl;refine tq ?_;rw[ev_dthere _ _ _ _ _ _ NE NE];refine tq ?_;rw[h1,hl]
 conv=>lhs;whnf
 rw[lget_i zf]
 conv=>lhs;whnf
 try dsimp -iota -beta -eta -zeta only
 rw[OQ];rw[ev_dwrite1 _ _ NE]
 conv=>lhs;whnf
 rw[bY zf]
 conv=>lhs;whnf
 rw[lget_i zf]
 conv=>lhs;whnf
theorem ev_dwrite(data:List UInt8)(hl:ar.length<=1000)(ha:0<=a/\a<ar.length)(hw:0<=wr/\wr<=1000000)(hd:data.length<=65536):Y E0 (.call 119 [.agg [.sl (.sl .u8) ar,.i wr,.i 0,.i to,.b false],.i a,.sl .u8 data] [])=some (.ret (.tup [.agg [.sl (.sl .u8) (BH ar a data),.i (wr+1),.i 0,.i to,.b false],.i 0]) []):=by
 have h0:CX (wr+1) 0=false:=fE zf
 rw[JB]
 conv=>lhs;whnf
 rw[UK];conv=>lhs;whnf
 try dsimp -iota -beta -eta -zeta only
 rw[ZF zf];rw[OQ];rw[h0,ev_dput _ _ _ _ _ hl ha hw hd];exact tq rfl
theorem ev_jmark(hp:p.length<=1000000):Y E0 (.call 118 [.i q,.sl .u8 p] [])=some (.ret (.sl .u8 (markB q p)) []):=by
 refine tq ?_;rw[ev_uint _ _ _ NE];refine tq ?_;rw[ev_dig_hash _ _ NE NE];refine tq ?_;rw[markB,<-List.nil_append (n8 q),<-uint_n8]
theorem ev_jbased:Y E0 (.call 88 [.i 0] [])=some (.ret (.b true) []):=by
 exact tq rfl
theorem ev_jcommit(q:Int)(p:List UInt8)(hl:ar.length<=1000)(ha:2<=ar.length)(hw:0<=wr/\wr<=1000000)(hp:p.length<=60000)(hq:1<=q/\q<=1000000):Y E0 (.call 76 [.agg [.sl (.sl .u8) ar,.i wr,.i 0,.i to,.b false],.i 0,.i q,.sl .u8 p] [])=some (.ret (.tup [.agg [.sl (.sl .u8) (BH ar (q%2) (rcdB q p)),.i (wr+1),.i 0,.i to,.b false],.i 0]) []):=by
 refine tq ?_;rw[ev_jbased];refine tq ?_;rw[ev_jmark _ _ NE];refine tq ?_;rw[ev_uint _ _ _ (by(simp only[markB_len,n8_len,n4_len,rcdB_len,bl_len,Gu,Zf,Zg,Zh,OO,XZ,Xa,XX,ZO,LL] at *<;>omega))];refine tq ?_;rw[ev_uint _ _ _ (by(simp only[markB_len,n8_len,n4_len,rcdB_len,bl_len,Gu,Zf,Zg,Zh,OO,XZ,Xa,XX,ZO,LL] at *<;>omega))]
 conv=>lhs;whnf
 try dsimp -iota -beta -eta -zeta only
 rw[fE zf]
 conv=>lhs;whnf
 rw[Ls (by(simp only[markB_len,n8_len,n4_len,rcdB_len,bl_len,Gu,Zf,Zg,Zh,OO,XZ,Xa,XX,ZO,LL] at *<;>omega))]
 conv=>lhs;whnf
 try dsimp -iota -beta -eta -zeta only
 rw[ZJ zf];rw[ZF zf];rw[OQ];rw[ev_dwrite _ _ _ _ _ zf zf zf (by(simp only[markB_len,n8_len,n4_len,rcdB_len,bl_len,Gu,Zf,Zg,Zh,OO,XZ,Xa,XX,ZO,LL] at *<;>omega))];refine tq ?_;rw[Int.zero_add,rcdB,uint_n8,uint_n4,UH,QP]
theorem ev_jparse(b p:List UInt8)(q w:Int)(hb:b.length<=1000000)(hq:1<=q/\q<=1000000)(hw:q%2=w){n:Nat}(g0:mD b 0 0 32=(markB q p,32,0))(g1:jQ b 32 0 8=(q,40,0))(g2:jQ b 40 0 4=((n:Int),44,0))(g3:mD b 44 0 (n:Int)=(p,44+n,0))(hp:p.length=n)(hn:44+n=b.length):Y E0 (.call 90 [.sl .u8 b,.i w] [])=some (.ret (.tup [.sl .u8 p,.i q,.b true]) []):=by
 have h0:=ev_raw b 0 0 32 zf zf zf
 have h1:=ev_ruint b 32 0 8 zf zf
 have h2:=ev_ruint b 40 0 4 zf zf
 have h3:=ev_raw b 44 0 n zf zf zf
 rw[g0] at h0;rw[g1] at h1;rw[g2] at h2;rw[g3] at h3;refine tq ?_;rw[ev_new _ NE];refine tq ?_;rw[show Y E0 (.call 134 [.pa 0 0,.i 32] [.var [.sl .u8 b,.i 0,.i 0]])=_ from h0];refine tq ?_;rw[h1];refine tq ?_;rw[h2];refine tq ?_;rw[h3];refine tq ?_;rw[ev_rerr ..];refine tq ?_;rw[ev_jmark _ _ NE];exact tq rfl
theorem ev_jparse0(w:Int):Y E0 (.call 90 [.sl .u8 [],.i w] [])=some (.ret (.tup [.sl .u8 [],.i 0,.b false]) []):=by
 have h0:=ev_raw [] 0 0 32 zh zh zf
 rw[show mD [] 0 0 32=([],0,2) from by decide] at h0
 have h1:=ev_ruint [] 0 2 8 zh zh
 rw[show jQ [] 0 2 8=(0,0,2) from by decide] at h1
 have h2:=ev_ruint [] 0 2 4 zh zh
 rw[show jQ [] 0 2 4=(0,0,2) from by decide] at h2
 have h3:=ev_raw [] 0 2 0 zh zh zf
 rw[show mD [] 0 2 0=([],0,2) from by decide] at h3;refine tq ?_;rw[ev_new _ NE];refine tq ?_;rw[show Y E0 (.call 134 [.pa 0 0,.i 32] [.var [.sl .u8 [],.i 0,.i 0]])=_ from h0];refine tq ?_;rw[ev_ruint _ _ _ _ NE NE];refine tq ?_;rw[ev_ruint _ _ _ _ NE NE];refine tq ?_;rw[ev_raw _ _ _ _ NE NE NE];refine tq ?_;rw[ev_rerr ..];exact tq rfl
theorem rcd_reads{b p:List UInt8}{q:Int}(hb:b=rcdB q p)(hp:p.length<=60000)(hq:1<=q/\q<=1000000):mD b 0 0 32=(markB q p,32,0)/\jQ b 32 0 8=(q,40,0)/\jQ b 40 0 4=((p.length:Int),44,0)/\mD b 44 0 (p.length:Int)=(p,44+p.length,0)/\44+p.length=b.length:=by
 have hl:b.length=44+p.length:=by rw[hb,rcdB_len]
 have e0:b.drop 0=markB q p++(n8 q++(n4 (p.length:Int)++(p++[]))):=by rw[hb,rcdB];simp
 obtain⟨a0,a1,a2⟩:=rdR_app (n:=32) zf e0 (markB_len q p)
 obtain⟨b0,b1,b2⟩:=rdU_app (n:=8) (x:=q) a1 zf a2 zf zf zf
 obtain⟨c0,c1,c2⟩:=rdU_app (n:=4) (x:=(p.length:Int)) b1 zf b2 zf zf zx
 obtain⟨d0,d1,d2⟩:=rdR_app (n:=p.length) c1 c2 rfl;exact⟨a0,b0,c0,d0,by omega⟩
theorem ev_jparse_r(q w:Int)(hp:p.length<=60000)(hq:1<=q/\q<=1000000)(hw:q%2=w):Y E0 (.call 90 [.sl .u8 (rcdB q p),.i w] [])=some (.ret (.tup [.sl .u8 p,.i q,.b true]) []):=by
 obtain⟨h0,h1,h2,h3,h4⟩:=rcd_reads (b:=rcdB q p) rfl hp hq;exact ev_jparse (rcdB q p) p q w zf hq hw h0 h1 h2 h3 rfl h4
def arOK(ar:List (List UInt8))(q:Int)(p:List UInt8):Prop:=ar.length=4/\1<=q/\q<=900000/\p.length<=60000/\ar[(q%2).toNat]?=some (rcdB q p)/\(ar[((q+1)%2).toNat]?=some []\/∃ p',p'.length<=60000/\2<=q/\ar[((q+1)%2).toNat]?=some (rcdB (q-1) p'))
theorem ev_dread'{x:List UInt8}(hl:ar.length<=1000)(ha:0<=a/\a<ar.length)(hg:ar[a.toNat]?=some x)(hx:x.length<=1000000):Y E0 (.call 89 [.agg [.sl (.sl .u8) ar,.i wr,.i cu,.i to,.b false],.i a] [])=some (.ret (.tup [.sl .u8 x,.i 0]) []):=by
 have hg:BA ar a=some x:=by rw[Nl,lget0,if_pos ha.1];exact hg
 refine tq ?_;rw[ev_dthere _ _ _ _ _ _ NE NE];refine tq ?_;rw[hg];exact tq rfl
theorem ev_jrec_l1(hl:ar.length=4)(h0:ar[(0:Int).toNat]?=some x0)(h1:ar[(1:Int).toNat]?=some x1)(b0:x0.length<=1000000)(b1:x1.length<=1000000):Y E0 (.loop 50 0 0 2 [(1,.i 0),(2,.pa 0 0),(4,.nil),(5,.i 0),(7,.pa 1 0),(18,.i 0)] [(0,some (.var [.sl (.sl .u8) ar,.i wr,.i cu,.i to,.b false])),(1,some (.var [.nil,.nil]))])=some (.fin (.exit 0) 1 [(4,.nil),(5,.i 0),(7,.pa 0 0)] [(0,some (.var [.sl .u8 x0,.sl .u8 x1]))]):=by
 refine tq ?_;rw[ev_dread' _ _ _ _ _ NE NE NE NE];refine tq ?_;refine tq ?_;rw[ev_dread' _ _ _ _ _ NE NE NE NE];refine tq ?_;exact tq rfl
theorem ev_jrec_l2a{o0:Bool}(e0:Y E0 (.call 90 [.sl .u8 x0,.i 0] [])=some (.ret (.tup [.sl .u8 p0,.i q0,.b o0]) []))(e1:Y E0 (.call 90 [.sl .u8 x1,.i 1] [])=some (.ret (.tup [.sl .u8 p1,.i q1,.b true]) []))(h:0<=q0/\q0<q1/\q1<=1000000)(hz:o0=true->0<q0):
  Y E0 (.loop 50 1 0 0 [(4,.nil),(5,.i 0),(9,.b false),(35,.agg [.sl .u8 x0,.sl .u8 x1]),(36,.i 0)] [])=some (.fin (.exit 2) 0 [(4,.sl .u8 p1),(5,.i q1),(9,.b true)] []):=by
 cases o0 with
 | false =>
  refine tq ?_;rw[e0];refine tq ?_;refine tq ?_;rw[show(0+1:Int)=1 from rfl,e1];refine tq ?_;exact tq rfl
 | true =>
  have hz:=hz rfl
  refine tq ?_;rw[e0];refine tq ?_;refine tq ?_;rw[show(0+1:Int)=1 from rfl,e1];refine tq ?_;exact tq rfl
theorem ev_jrec_l2b{o1:Bool}(e0:Y E0 (.call 90 [.sl .u8 x0,.i 0] [])=some (.ret (.tup [.sl .u8 p0,.i q0,.b true]) []))(e1:Y E0 (.call 90 [.sl .u8 x1,.i 1] [])=some (.ret (.tup [.sl .u8 p1,.i q1,.b o1]) []))(h:0<=q1/\q1<q0/\q0<=1000000):
  Y E0 (.loop 50 1 0 0 [(4,.nil),(5,.i 0),(9,.b false),(35,.agg [.sl .u8 x0,.sl .u8 x1]),(36,.i 0)] [])=some (.fin (.exit 2) 0 [(4,.sl .u8 p0),(5,.i q0),(9,.b true)] []):=by
 cases o1 with
 | false =>
  refine tq ?_;rw[e0];refine tq ?_;refine tq ?_;rw[show(0+1:Int)=1 from rfl,e1];refine tq ?_;exact tq rfl
 | true =>
  refine tq ?_;rw[e0];refine tq ?_;refine tq ?_;rw[show(0+1:Int)=1 from rfl,e1];refine tq ?_;exact tq rfl
theorem ev_jrecover_a{o0:Bool}(hl:ar.length=4)(h0:ar[(0:Int).toNat]?=some x0)(h1:ar[(1:Int).toNat]?=some x1)(b0:x0.length<=1000000)(b1:x1.length<=1000000)(e0:Y E0 (.call 90 [.sl .u8 x0,.i 0] [])=some (.ret (.tup [.sl .u8 p0,.i q0,.b o0]) []))(e1:Y E0 (.call 90 [.sl .u8 x1,.i 1] [])=some (.ret (.tup [.sl .u8 p1,.i q1,.b true]) []))(h:0<=q0/\q0<q1/\q1<=1000000)(hz:o0=true->0<q0):
  Y E0 (.call 50 [.agg [.sl (.sl .u8) ar,.i wr,.i cu,.i to,.b false],.i 0] [])=some (.ret (.tup [.sl .u8 p1,.i q1,.i 0]) []):=by
 refine tq ?_;rw[ev_jbased];refine tq ?_;rw[ev_jrec_l1 ar wr cu to hl h0 h1 b0 b1];refine tq ?_;rw[ev_jrec_l2a e0 e1 h hz];exact tq rfl
theorem ev_jrecover_b{o1:Bool}(hl:ar.length=4)(h0:ar[(0:Int).toNat]?=some x0)(h1:ar[(1:Int).toNat]?=some x1)(b0:x0.length<=1000000)(b1:x1.length<=1000000)(e0:Y E0 (.call 90 [.sl .u8 x0,.i 0] [])=some (.ret (.tup [.sl .u8 p0,.i q0,.b true]) []))(e1:Y E0 (.call 90 [.sl .u8 x1,.i 1] [])=some (.ret (.tup [.sl .u8 p1,.i q1,.b o1]) []))(h:0<=q1/\q1<q0/\q0<=1000000):
  Y E0 (.call 50 [.agg [.sl (.sl .u8) ar,.i wr,.i cu,.i to,.b false],.i 0] [])=some (.ret (.tup [.sl .u8 p0,.i q0,.i 0]) []):=by
 refine tq ?_;rw[ev_jbased];refine tq ?_;rw[ev_jrec_l1 ar wr cu to hl h0 h1 b0 b1];refine tq ?_;rw[ev_jrec_l2b e0 e1 h];exact tq rfl
theorem ev_jrecover(wr cu to:Int)(h:arOK ar q p):Y E0 (.call 50 [.agg [.sl (.sl .u8) ar,.i wr,.i cu,.i to,.b false],.i 0] [])=some (.ret (.tup [.sl .u8 p,.i q,.i 0]) []):=by
 obtain⟨h1,h2,h3,h4,h5,h6⟩:=h
 have hp:=ev_jparse_r p q (q%2) h4 ⟨h2,by omega⟩ rfl
 have hr:=rcdB_len q p
 rcases(by omega:q%2=0\/q%2=1) with hm|hm
 ·rw[hm] at h5 hp;rw[show(q+1)%2=1 from by omega] at h6
  rcases h6 with h6|⟨p',h7,h8,h6⟩
  ·exact ev_jrecover_b ar wr cu to h1 h5 h6 zf zh hp (ev_jparse0 1) zf
  ·have hr':=rcdB_len (q-1) p'
   exact ev_jrecover_b ar wr cu to h1 h5 h6 zf zf hp (ev_jparse_r p' (q-1) 1 h7 zf zf) zf
 ·rw[hm] at h5 hp;rw[show(q+1)%2=0 from by omega] at h6
  rcases h6 with h6|⟨p',h7,h8,h6⟩
  ·exact ev_jrecover_a ar wr cu to h1 h6 h5 zh zf (ev_jparse0 0) hp zf (fun h=>by cases h)
  ·have hr':=rcdB_len (q-1) p'
   exact ev_jrecover_a ar wr cu to h1 h6 h5 zf zf (ev_jparse_r p' (q-1) 0 h7 zf zf) hp zf (fun _=>by omega)
theorem arOK_next{ar:List (List UInt8)}{q:Int}{p p':List UInt8}(h:arOK ar q p)(hq:q+1<=900000)(hp:p'.length<=60000):arOK (BH ar ((q+1)%2) (rcdB (q+1) p')) (q+1) p':=by
 obtain⟨h1,h2,h3,h4,h5,h6⟩:=h;rw[UJ]
 refine⟨by rw[List.length_set];exact h1,by omega,by omega,hp,?_,.inr ⟨p,h4,by omega,?_⟩⟩
 ·rw[List.getElem?_set_self zf]
 ·rw[List.getElem?_set_ne zf,show(q+1+1)%2=q%2 from by omega,h5,show q+1-1=q from by omega]
end
section
attribute [local irreducible] BL BM BN BO BP BJ BQ CX Cm CY CW Ba Bc BF BC and' BG Bd Aa Ac Ad Ae Af AL AO AP AQ BR D8 BU D5 Be Bf Ag Ah Ai Aj AB AZ AU Ar BA BV BH BB Au Aw BI Bg BX fits BZ BK A7 A8 AC
theorem ev_next(p:Int)(x:List UInt8)(hx:x.length<=1000000):Y E0 (.call 351 [.i leaf,.i c,.i p,.sl .u8 x] [])=some (.ret (.sl .u8 (Xx leaf c p x)) []):=by
 refine tq ?_;rw[ev_dig_hash _ _ (by simp[Bh,fieldsB,NZ];omega) zB]
 refine tq ?_;simp only[iu8_eq];rfl
theorem ev_first(leaf c:Int)(hx:seed.length<=1000000):Y E0 (.call 355 [.sl .u8 seed,.i leaf,.i c] [])=some (.ret (.sl .u8 (Tf seed leaf c)) []):=by
 refine tq ?_;rw[show strOf {data := #[99,104,97,105,110]}=[99,104,97,105,110] from rfl,ev_derive _ _ _ _ zf zh zB];refine tq ?_;simp only[iu8_eq];rfl
theorem ev_value(x:List UInt8)(hx:x.length<=1000000):Y E0 (.call 329 [.i leaf,.sl .u8 x] [])=some (.ret (.sl .u8 (Xz leaf x)) []):=by
 refine tq ?_;rw[ev_dig_hash _ _ (by simp[Bh,fieldsB,NZ];omega) zB]
 refine tq ?_;simp only[iu8_eq];rfl
end
section
attribute [local irreducible] BL BM BN BO BP BJ BQ CX Cm CY CW Ba Bc BF BC and' BG Bd Aa Ac Ad Ae Af AL AO AP AQ BR D8 BU D5 Be Bf Ag Ah Ai Aj AB AZ AU Ar BA BV BH BB Au Aw BI Bg BX fits BZ BK A7 A8 AC
theorem ev_valid(l:Int):Y E0 (.call 326 [.i l] [])=some (.ret (.b (decide (0<=l/\l<=255))) []):=by
 refine tq ?_
 rcases ile_c 0 l with hc0|hc0
 ·refine tq ?_
  (congr 3;simp only[bu,bz,ilt_eq,ile_eq,UK,bi,QP];first|rfl|(rw[decide_eq_decide];omega)|(simp;omega))
 refine tq ?_
 (rw[decide_eq_false zf])
theorem ev_P_1(hx:seed.length<=1000000):Y E0 (.call 363 [.i c,.pa 0 0,.pa 1 0] [.var [.sl .u8 seed],.var [.i leaf]])=some (.ret (.sl .u8 (Tf seed leaf c)) [some (.var [.sl .u8 seed]),some (.var [.i leaf])]):=by
 refine tq ?_;rw[ev_first _ _ _ NE];exact tq rfl
theorem ev_P_2:Y E0 (.call 364 [.i c] [])=some (.ret (.i 0) []):=by
 exact tq rfl
theorem ev_P_3:Y E0 (.call 365 [.i c] [])=some (.ret (.i 15) []):=by
 exact tq rfl
theorem ev_walk_p_in(leaf:Int)(seed:List UInt8)(hx:seed.length<=1000000)(acc:List UInt8)(c:Nat)(hc:c<35)(ha:acc.length<=1000):∀(k:Nat) (q:Int) (x:List UInt8),0<=q->((15:Int)-q).toNat=k->x.length<=1000000 ->
  Y E0 (.loop 330 1 2 3 [(0,.i leaf),(1,AV.fn 363 [] [.pa 0 0,.pa 1 0]),(2,AV.fn 364 [] []),(3,AV.fn 365 [] []),(9,.nm 2),(10,.i c),(11,.sl .u8 x),(12,.i q),(13,.i c)] [(0,some (Rs.var [.sl .u8 seed])),(1,some (Rs.var [.i leaf])),(2,some (.row 5 .u8 acc))])=some (.fin (.exit 2) 3 [(0,.i leaf),(1,AV.fn 363 [] [.pa 0 0,.pa 1 0]),(2,AV.fn 364 [] []),(3,AV.fn 365 [] []),(9,.nm 2),(11,.sl .u8 (Xy k leaf c q x)),(13,.i c)] [(0,some (Rs.var [.sl .u8 seed])),(1,some (Rs.var [.i leaf])),(2,some (.row 5 .u8 acc))])
 | 0,q,x,h0,hk,hx'=>by
  refine tq ?_;rw[ev_P_3 _];refine tq ?_
  rfl
 | k+1,q,x,h0,hk,hx'=>by
  have ih:=ev_walk_p_in leaf seed hx acc c hc ha k (q+1) (Xx leaf c q x) zf zf (by rw[VY];omega)
  refine tq ?_;rw[ev_P_3 _];refine tq ?_;rw[ev_next _ _ _ _ NE];refine tq ?_
  refine(congrArg (Y E0) ?_).trans ih;(try simp only[Rq.loop.injEq,Rq.call.injEq,Rq.ops.injEq,List.cons.injEq,Prod.mk.injEq,AV.i.injEq,AV.sl.injEq,AV.st.injEq,AV.b.injEq,AV.u8.injEq,AV.nm.injEq,Option.some.injEq,Rs.row.injEq,Rs.var.injEq,heq_eq_eq,true_and,and_true]);(try(repeat' apply And.intro));all_goals first|(with_reducible rfl)|omega|(rw[ZF zf];omega)|(rw[ZG zf];omega)
theorem ev_walk_p_loop(leaf:Int)(seed:List UInt8)(hx:seed.length<=1000000):∀(k c:Nat) (acc:List UInt8),c+k=35->acc=Y0 leaf (fun c=>Tf seed leaf c) (fun c=>(0:Int)) (fun c=>(15:Int)) c->acc.length<=16*c ->
  Y E0 (.loop 330 0 2 3 [(0,.i leaf),(1,AV.fn 363 [] [.pa 0 0,.pa 1 0]),(2,AV.fn 364 [] []),(3,AV.fn 365 [] []),(9,.nm 2),(13,.i c)] [(0,some (Rs.var [.sl .u8 seed])),(1,some (Rs.var [.i leaf])),(2,some (.row 5 .u8 acc))])=some (.fin (.exit 0) 2 [(9,.sl .u8 (Y0 leaf (fun c=>Tf seed leaf c) (fun c=>(0:Int)) (fun c=>(15:Int)) 35))] [(0,some (Rs.var [.sl .u8 seed])),(1,some (Rs.var [.i leaf]))])
 | 0,c,acc,hc,he,ha=>by
  obtain rfl:c=35:=zf
  rw[<-he]
  exact tq rfl
 | k+1,c,acc,hc,he,ha=>by
  have hin:=ev_walk_p_in leaf seed hx acc c zf zf
  have hst:(Tf seed leaf c).length=16:=by exact Ti _ _ _
  have hsl:=stepsB_16 ((15:Int)-(0:Int)).toNat leaf c ((0:Int)) _ hst
  have ih:=ev_walk_p_loop leaf seed hx k (c+1) (acc++Xy ((15:Int)-(0:Int)).toNat leaf c ((0:Int)) (Tf seed leaf c)) zf (by rw[walkB_succ,<-he]) (by rw[List.length_append,hsl];omega)
  rw[show((c+1:Nat):Int)=(c:Int)+1 from by omega] at ih
  refine tq ?_;rw[ev_P_1 _ _ _ NE];refine tq ?_;rw[ev_P_2 _];refine tq ?_;rw[hin _ _ _ zf rfl zf];refine tq ?_
  refine(congrArg (Y E0) ?_).trans ih;(try simp only[Rq.loop.injEq,Rq.call.injEq,Rq.ops.injEq,List.cons.injEq,Prod.mk.injEq,AV.i.injEq,AV.sl.injEq,AV.st.injEq,AV.b.injEq,AV.u8.injEq,AV.nm.injEq,Option.some.injEq,Rs.row.injEq,Rs.var.injEq,heq_eq_eq,true_and,and_true]);(try(repeat' apply And.intro));all_goals first|(with_reducible rfl)|omega|(rw[ZF zf];omega)|(rw[ZG zf];omega)|(rw[UH];done)|(rw[UH];rfl)
theorem ev_walk_p(hx:seed.length<=1000000):Y E0 (.call 330 [.i leaf,AV.fn 363 [] [.pa 0 0,.pa 1 0],AV.fn 364 [] [],AV.fn 365 [] []] [Rs.var [.sl .u8 seed],Rs.var [.i leaf]])=some (.ret (.sl .u8 (Y0 leaf (fun c=>Tf seed leaf c) (fun c=>(0:Int)) (fun c=>(15:Int)) 35)) [some (Rs.var [.sl .u8 seed]),some (Rs.var [.i leaf])]):=by
 have h0:=ev_walk_p_loop leaf seed hx 35 0 [] zf rfl zB
 rw[show((0:Nat):Int)=0 from rfl] at h0;refine tq ?_;exact h0▸rfl
theorem ev_public(hx:seed.length<=1000000):Y E0 (.call 360 [.sl .u8 seed,.i leaf] [])=some (.ret (.sl .u8 (UW seed leaf)) []):=by
 refine tq ?_;rw[ev_valid _];refine tq ?_
 rcases Decidable.em (0<=leaf/\leaf<=255) with hc0|hc0
 ·refine tq ?_;rw[ev_walk_p _ _ NE]
  conv=>lhs;whnf
  rw[We (by rfl)];conv=>lhs;whnf
  try dsimp -iota -beta -eta -zeta only
  rw[OQ];rw[ev_value _ _ (by rw[walkB_len _ _ _ _ 35 (fun c _=>Ti _ _ _) 35 (Nat.le_refl _)];omega)]
  refine tq ?_
  unfold UW;(repeat(first|rw[if_pos (by first|omega|decide|assumption|(simp only[Gu,Rz,OZ,VY,Ti,LL] at *<;>omega)|(simp;omega))]|rw[if_neg (by first|omega|decide|assumption|(simp only[Gu,Rz,OZ,VY,Ti,LL] at *<;>omega)|(simp;omega))]));try simp only[NO]
 refine tq ?_
 unfold UW;(repeat(first|rw[if_pos (by first|omega|decide|assumption|(simp only[Gu,Rz,OZ,VY,Ti,LL] at *<;>omega)|(simp;omega))]|rw[if_neg (by first|omega|decide|assumption|(simp only[Gu,Rz,OZ,VY,Ti,LL] at *<;>omega)|(simp;omega))]));try simp only[NO]
end
end Go.Proofs.YtanagnimhaemgaaGreatDoor
