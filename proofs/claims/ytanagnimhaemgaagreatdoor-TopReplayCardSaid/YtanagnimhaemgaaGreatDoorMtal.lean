/-
  Own texts, laid together for this claim: contracts of functions of the program and its references, used by the statements of this seat.
-/
import Derived.Test.YtanagnimhaemgaaGreatDoorMtab
import Derived.Test.YtanagnimhaemgaaGreatDoorMtac
import Derived.Test.YtanagnimhaemgaaGreatDoorMtad
import Derived.Test.YtanagnimhaemgaaGreatDoorMtaf
import Derived.Test.YtanagnimhaemgaaGreatDoorMtag
import Derived.Test.YtanagnimhaemgaaGreatDoorMtah
import Derived.Test.YtanagnimhaemgaaGreatDoorMtaj
set_option linter.all false
set_option maxHeartbeats 40000000
set_option maxRecDepth 100000
namespace Go.Proofs.YtanagnimhaemgaaGreatDoor
open Go Go.Ax Go.Eng
variable (sd:List (List UInt8))(x:Int)(au:List (List UInt8))(u y:Int)(en:List UInt8)(z ac re rs:Int)(b:List UInt8)(ck:Int)(od:Bool)(su mc:Int)(ix:List (El FU))(l1 l2 l3 l4 l5 l6:Int)
section
attribute [local irreducible] BL BM BN BO BP BJ BQ CX Cm CY CW Ba Bc BF BC and' BG Bd Aa Ac Ad Ae Af AL AO AP AQ BR D8 BU D5 Be Bf Ag Ah Ai Aj AB AZ AU Ar BA BV BH BB Au Aw BI Bg BX fits BZ BK A7 A8 AC
attribute [local irreducible] D7
theorem ev_bit(x:Bool):Y E0 (.call 123 [.b x] [])=some (.ret (.u8 (iw x)) []):=by
 cases x
 ·refine tq ?_
  rfl
 ·refine tq ?_
  rfl
theorem ev_at(l:List (List UInt8))(i:Int)(hi:0<=i)(hl:l.length<=1000):Y E0 (.call 121 [.sl (.sl .u8) l,.i i] [])=some (.ret (.sl .u8 (l.getD i.toNat [])) []):=by
 refine tq ?_
 rcases ile_c (↑l.length) i with hc0|hc0
 ·
  refine tq ?_
  (rw[List.getD_eq_getElem?_getD,List.getElem?_eq_none zf];rfl)
 refine tq ?_
 refine tq ?_
 rw[lget_i zf]
 conv=>lhs;whnf
 (rw[List.getD_eq_getElem?_getD,List.getElem?_eq_getElem zf];rfl)
theorem ev_ract0_l:Y E0 (.loop 155 0 0 1 [(1,.pa 0 0),(3,.i 0),(7,.i 0),(8,.i 0)] [(0,some (.var [.sl (.sl (.sl .u8)) [],.i u]))])=some (.fin (.exit 0) 0 [(3,.i 0)] []):=by
 rw[JB];conv=>lhs;whnf
 exact tq rfl
theorem ev_renc0_l(l:List UInt8):Y E0 (.loop 124 0 0 2 [(1,.pa 0 0),(3,.nm 1),(16,.i 0),(17,.i 0)] [(0,some (.var [.sl (.sl (.sl .u8)) [],.i u])),(1,some (.row 5 .u8 l))])=some (.fin (.exit 0) 0 [(3,.sl .u8 l)] []):=by
 rw[JB];conv=>lhs;whnf
 exact tq rfl
theorem ev_ract0:Y E0 (.call 155 [.agg [.sl (.sl (.sl .u8)) [],.i u]] [])=some (.ret (.i 0) []):=by
 have e:Ar ([]:List (List (List UInt8)))=0:=by rw[QP];rfl
 refine tq ?_
 rw[e,ev_ract0_l]
 exact tq rfl
theorem ev_renc0:Y E0 (.call 124 [.agg [.sl (.sl (.sl .u8)) [],.i u]] [])=some (.ret (.sl .u8 (0::n8 u)) []):=by
 have e:Ar ([]:List (List (List UInt8)))=0:=by rw[QP];rfl
 refine tq ?_
 rw[ev_ract0 _]
 refine tq ?_
 rw[ev_uint _ _ _ NE]
 refine tq ?_
 rw[e,ev_renc0_l]
 refine tq ?_
 (rw[uint_n8,iu8_eq];rfl)
theorem ev_nums1_l(hb:b.length<=100000):Y E0 (.loop 122 0 2 2 [(1,.pa 0 0),(5,.sl .i64 [x]),(6,.i 1),(7,.i 0)] [(0,some (.var [.nm 1])),(1,some (.row 5 .u8 b))])=some (.fin (.exit 0) 3 [] [(0,some (.var [.nm 2])),(1,some (.row 5 .u8 b)),(2,some (.row 5 .u8 (b++n8 x)))]):=by
 rw[JB];conv=>lhs;whnf
 refine tq ?_
 rw[ev_uint _ _ _ NE]
 refine tq ?_
 refine tq ?_
 rfl
theorem ev_nums3_l(hb:b.length<=100000):Y E0 (.loop 122 0 2 2 [(1,.pa 0 0),(5,.sl .i64 [x,y,z]),(6,.i 3),(7,.i 0)] [(0,some (.var [.nm 1])),(1,some (.row 5 .u8 b))])=some (.fin (.exit 0) 3 [] [(0,some (.var [.nm 2])),(1,some (.row 5 .u8 b)),(2,some (.row 5 .u8 (b++n8 x++n8 y++n8 z)))]):=by
 rw[JB];conv=>lhs;whnf
 refine tq ?_
 rw[ev_uint _ _ _ NE]
 refine tq ?_
 rw[JB]
 conv=>lhs;whnf
 rw[fH zf]
 conv=>lhs;whnf
 rw[lget_i (by(simp only[markB_len,n8_len,n4_len,n2_len,rcdB_len,bl_len,Gu,Zf,Zg,Zh,OO,XZ,Xa,XX,ZO,LL] at *<;>omega))]
 conv=>lhs;whnf
 try dsimp -iota -beta -eta -zeta only
 rw[OQ]
 rw[ev_uint _ _ _ NE]
 refine tq ?_
 rw[JB]
 conv=>lhs;whnf
 rw[fH zf]
 conv=>lhs;whnf
 rw[lget_i (by(simp only[markB_len,n8_len,n4_len,n2_len,rcdB_len,bl_len,Gu,Zf,Zg,Zh,OO,XZ,Xa,XX,ZO,LL] at *<;>omega))]
 conv=>lhs;whnf
 try dsimp -iota -beta -eta -zeta only
 rw[OQ]
 rw[ev_uint _ _ _ NE]
 refine tq ?_
 refine tq ?_
 (simp only[uint_n8];rfl)
theorem ev_nums6_l(u v w:Int)(b:List UInt8)(hb:b.length<=100000):Y E0 (.loop 122 0 2 2 [(1,.pa 0 0),(5,.sl .i64 [x,y,z,u,v,w]),(6,.i 6),(7,.i 0)] [(0,some (.var [.nm 1])),(1,some (.row 5 .u8 b))])=some (.fin (.exit 0) 3 [] [(0,some (.var [.nm 2])),(1,some (.row 5 .u8 b)),(2,some (.row 5 .u8 (b++n8 x++n8 y++n8 z++n8 u++n8 v++n8 w)))]):=by
 rw[JB];conv=>lhs;whnf
 refine tq ?_
 rw[ev_uint _ _ _ NE]
 refine tq ?_
 rw[JB]
 conv=>lhs;whnf
 rw[fH zf]
 conv=>lhs;whnf
 rw[lget_i (by(simp only[markB_len,n8_len,n4_len,n2_len,rcdB_len,bl_len,Gu,Zf,Zg,Zh,OO,XZ,Xa,XX,ZO,LL] at *<;>omega))]
 conv=>lhs;whnf
 try dsimp -iota -beta -eta -zeta only
 rw[OQ]
 rw[ev_uint _ _ _ NE]
 refine tq ?_
 rw[JB]
 conv=>lhs;whnf
 rw[fH zf]
 conv=>lhs;whnf
 rw[lget_i (by(simp only[markB_len,n8_len,n4_len,n2_len,rcdB_len,bl_len,Gu,Zf,Zg,Zh,OO,XZ,Xa,XX,ZO,LL] at *<;>omega))]
 conv=>lhs;whnf
 try dsimp -iota -beta -eta -zeta only
 rw[OQ]
 rw[ev_uint _ _ _ NE]
 refine tq ?_
 rw[JB]
 conv=>lhs;whnf
 rw[fH zf]
 conv=>lhs;whnf
 rw[lget_i (by(simp only[markB_len,n8_len,n4_len,n2_len,rcdB_len,bl_len,Gu,Zf,Zg,Zh,OO,XZ,Xa,XX,ZO,LL] at *<;>omega))]
 conv=>lhs;whnf
 try dsimp -iota -beta -eta -zeta only
 rw[OQ]
 rw[ev_uint _ _ _ NE]
 refine tq ?_
 rw[JB]
 conv=>lhs;whnf
 rw[fH zf]
 conv=>lhs;whnf
 rw[lget_i (by(simp only[markB_len,n8_len,n4_len,n2_len,rcdB_len,bl_len,Gu,Zf,Zg,Zh,OO,XZ,Xa,XX,ZO,LL] at *<;>omega))]
 conv=>lhs;whnf
 try dsimp -iota -beta -eta -zeta only
 rw[OQ]
 rw[ev_uint _ _ _ NE]
 refine tq ?_
 rw[JB]
 conv=>lhs;whnf
 rw[fH zf]
 conv=>lhs;whnf
 rw[lget_i (by(simp only[markB_len,n8_len,n4_len,n2_len,rcdB_len,bl_len,Gu,Zf,Zg,Zh,OO,XZ,Xa,XX,ZO,LL] at *<;>omega))]
 conv=>lhs;whnf
 try dsimp -iota -beta -eta -zeta only
 rw[OQ]
 rw[ev_uint _ _ _ NE]
 refine tq ?_
 refine tq ?_
 (simp only[uint_n8];rfl)
theorem ev_nums1(hb:b.length<=100000):Y E0 (.call 122 [.sl .i64 [x],.pa 0 0] [.var [.nm 1],.row 5 .u8 b])=some (.ret (.tup []) [some (.var [.nm 2]),some (.row 5 .u8 b),some (.row 5 .u8 (b++n8 x))]):=by
 have e:Ar [x]=1:=by rw[QP];rfl
 refine tq ?_
 rw[e,show Nat.add 0 [Rs.row 5 Ty.u8 b].length+1=2 from rfl,ev_nums1_l x b hb]
 exact tq rfl
theorem ev_nums3(hb:b.length<=100000):Y E0 (.call 122 [.sl .i64 [x,y,z],.pa 0 0] [.var [.nm 1],.row 5 .u8 b])=some (.ret (.tup []) [some (.var [.nm 2]),some (.row 5 .u8 b),some (.row 5 .u8 (b++n8 x++n8 y++n8 z))]):=by
 have e:Ar [x,y,z]=3:=by rw[QP];rfl
 refine tq ?_
 rw[e,show Nat.add 0 [Rs.row 5 Ty.u8 b].length+1=2 from rfl,ev_nums3_l x y z b hb]
 exact tq rfl
theorem ev_nums6(u v w:Int)(b:List UInt8)(hb:b.length<=100000):Y E0 (.call 122 [.sl .i64 [x,y,z,u,v,w],.pa 0 0] [.var [.nm 1],.row 5 .u8 b])=some (.ret (.tup []) [some (.var [.nm 2]),some (.row 5 .u8 b),some (.row 5 .u8 (b++n8 x++n8 y++n8 z++n8 u++n8 v++n8 w))]):=by
 have e:Ar [x,y,z,u,v,w]=6:=by rw[QP];rfl
 refine tq ?_
 rw[e,show Nat.add 0 [Rs.row 5 Ty.u8 b].length+1=2 from rfl,ev_nums6_l x y z u v w b hb]
 exact tq rfl
theorem getD_len{l:List (List UInt8)}{m:Nat}(h:∀ x∈l,x.length<=m)(i:Nat):(l.getD i []).length<=m:=by
 rw[List.getD_eq_getElem?_getD]
 cases hx:l[i]? with
 | none=>exact Nat.zero_le _
 | some x=>exact h x (List.mem_of_getElem? hx)
theorem ev_boot(sb:List (List (List UInt8)))(su mc:Int)(ix:List (El FU))(l1 l2 l3 l4 l5 l6:Int)(ks:List (El IJ)):Y E0 (.call 52 [.agg (nS sd au en ac re rs ck od sb su mc ix l1 l2 l3 l4 l5 l6 ks)] [])=some (.ret (.agg (nS sd au en ac re rs ck od sb su mc ix l1 l2 l3 l4 l5 l6 ks++[.b false,.b false,.sl (.sl (.sl .u8)) [],.i 0,.i 0,.b false,.i 0,.sl Gi (List.replicate 3 (0,[],[],0,0,0,0,false)),.sl objT (List.replicate 3 ((0,0,0,[],[]),([],[],[]),0)),.sl .i64 [],.sl .i64 []])) []):=by
 have h1:Au 3 ((0,[],[],0,0,0,0,false):El Gi)=List.replicate 3 (0,[],[],0,0,0,0,false):=by rw[QQ];rfl
 have h2:Au 3 (((0,0,0,[],[]),([],[],[]),0):El objT)=List.replicate 3 ((0,0,0,[],[]),([],[],[]),0):=by rw[QQ];rfl
 refine tq ?_
 (rw[<-h1,<-h2];rfl)
theorem ev_senc_l1(ks:List (El IJ))(hs:sd.length=3)(hsm:∀ x∈sd,x.length<=1000)(b:List UInt8)(hb:b.length<=1000):
  Y E0 (.loop 78 0 0 3 [(1,.pa 0 0),(3,.pa 1 0),(16,.i 0)] [(0,some (.var (nS sd au en ac re rs ck od [] su mc ix l1 l2 l3 l4 l5 l6 ks))),(1,some (.var [.nm 2])),(2,some (.row 5 .u8 b))])
   = some (.fin (.exit 0) 3 [(1,.pa 0 0),(3,.pa 1 0)] [(0,some (.var (nS sd au en ac re rs ck od [] su mc ix l1 l2 l3 l4 l5 l6 ks))),(1,some (.var [.nm 2])),(2,some (.row 5 .u8 (b++bl (sd.getD 0 [])++bl (sd.getD 1 [])++bl (sd.getD 2 []))))]):=by
 have h0:=getD_len hsm 0
 have h1:=getD_len hsm 1
 have h2:=getD_len hsm 2
 rw[<-blob_bl (Nat.le_trans h0 zh),<-blob_bl (Nat.le_trans h1 zh),<-blob_bl (Nat.le_trans h2 zh)]
 rw[JB];conv=>lhs;whnf
 refine tq ?_
 rw[ev_at _ _ NE NE]
 refine tq ?_
 rw[ev_blob _ _ NE]
 refine tq ?_
 refine tq ?_
 rw[ev_at _ _ NE NE]
 refine tq ?_
 rw[ev_blob _ _ NE]
 refine tq ?_
 refine tq ?_
 rw[ev_at _ _ NE NE]
 refine tq ?_
 rw[ev_blob _ _ NE]
 refine tq ?_
 refine tq ?_
 rfl
theorem ev_senc_l2(ks:List (El IJ))(ha:au.length=4)(ham:∀ x∈au,x.length<=1000)(b:List UInt8)(hb:b.length<=10000):
  Y E0 (.loop 78 1 0 3 [(1,.pa 0 0),(3,.pa 1 0),(26,.i 0)] [(0,some (.var (nS sd au en ac re rs ck od [] su mc ix l1 l2 l3 l4 l5 l6 ks))),(1,some (.var [.nm 2])),(2,some (.row 5 .u8 b))])
   = some (.fin (.exit 2) 3 [(1,.pa 0 0),(3,.pa 1 0)] [(0,some (.var (nS sd au en ac re rs ck od [] su mc ix l1 l2 l3 l4 l5 l6 ks))),(1,some (.var [.nm 2])),(2,some (.row 5 .u8 (b++bl (au.getD 0 [])++bl (au.getD 1 [])++bl (au.getD 2 [])++bl (au.getD 3 []))))]):=by
 have h0:=getD_len ham 0
 have h1:=getD_len ham 1
 have h2:=getD_len ham 2
 have h3:=getD_len ham 3
 rw[<-blob_bl (Nat.le_trans h0 zh),<-blob_bl (Nat.le_trans h1 zh),<-blob_bl (Nat.le_trans h2 zh),<-blob_bl (Nat.le_trans h3 zh)]
 rw[JB];conv=>lhs;whnf
 refine tq ?_
 rw[ev_at _ _ NE NE]
 refine tq ?_
 rw[ev_blob _ _ NE]
 refine tq ?_
 refine tq ?_
 rw[ev_at _ _ NE NE]
 refine tq ?_
 rw[ev_blob _ _ NE]
 refine tq ?_
 refine tq ?_
 rw[ev_at _ _ NE NE]
 refine tq ?_
 rw[ev_blob _ _ NE]
 refine tq ?_
 refine tq ?_
 rw[ev_at _ _ NE NE]
 refine tq ?_
 rw[ev_blob _ _ NE]
 refine tq ?_
 refine tq ?_
 rfl
theorem ixn_eq(x:El FU)(h:iU x):J8 (J8 (J8 (Aw (Bz (Aw b [D5 x.1,D5 x.2.1,D5 x.2.2.1]) 2 x.2.2.2.1) [iw x.2.2.2.2.2.2.1]) x.2.2.2.2.1) x.2.2.2.2.2.1) x.2.2.2.2.2.2.2=b++lN x:=by
 obtain⟨-,-,h1,h2,h3,-⟩:=h
 rw[blob_bl (Nat.le_trans h3 zh),blob_bl (Nat.le_trans h2 zh),blob_bl (Nat.le_trans h1 zh),uint_n2,UH,UH,iu8_eq,iu8_eq,iu8_eq,lN]
 simp only[List.append_assoc,List.cons_append,List.nil_append]
theorem ixn_len(x:El FU)(h:iU x):(lN x).length<=300:=by
 obtain⟨-,-,h1,h2,h3,-⟩:=h
 simp only[lN,List.length_cons,List.length_append,n2_len,bl_len];omega
theorem lef_eq(x:El IJ)(h:iW x):Aw (J8 b x.1) [D5 x.2]=b++lQ x:=by
 rw[blob_bl (Nat.le_trans h.1 zh),UH,iu8_eq,lQ,List.append_assoc]
theorem lef_len(x:El IJ)(h:iW x):(lQ x).length<=300:=by
 have:=h.1
 simp only[lQ,List.length_cons,List.length_append,List.length_nil,bl_len];omega
theorem drop_get{α:Type}{l:List α}{j:Nat}{x:α}(h:l[j]?=some x):l.drop j=x::l.drop (j+1):=by
 obtain⟨h1,h2⟩:=List.getElem?_eq_some_iff.1 h
 rw[<-h2];exact List.drop_eq_getElem_cons h1
theorem ev_senc_l3(sd au:List (List UInt8))(en:List UInt8)(ac re rs ck:Int)(od:Bool)(su mc:Int)(ix:List (El FU))(l1 l2 l3 l4 l5 l6:Int)(ks:List (El IJ))(hl:ix.length<=6)(hx:∀ x∈ix,iU x):∀(k j:Nat) (b:List UInt8),j+k=ix.length->b.length+300*k<=50000 ->
  Y E0 (.loop 78 2 0 3 [(1,.pa 0 0),(3,.pa 1 0),(6,.fn 122 [] [.pa 1 0]),(74,.sl FU ix),(75,.i (ix.length:Int)),(76,.i (j:Int))] [(0,some (.var (nS sd au en ac re rs ck od [] su mc ix l1 l2 l3 l4 l5 l6 ks))),(1,some (.var [.nm 2])),(2,some (.row 5 .u8 b))])
   = some (.fin (.exit 4) 3 [(1,.pa 0 0),(3,.pa 1 0),(6,.fn 122 [] [.pa 1 0])] [(0,some (.var (nS sd au en ac re rs ck od [] su mc ix l1 l2 l3 l4 l5 l6 ks))),(1,some (.var [.nm 2])),(2,some (.row 5 .u8 (b++(ix.drop j).flatMap lN)))])
 | 0,j,b,hj,hb=>by
  obtain rfl:j=ix.length:=zf
  rw[List.drop_length,List.flatMap_nil,List.append_nil]
  rw[JB];conv=>lhs;whnf
  refine tq ?_
  with_reducible rfl
 | k+1,j,b,hj,hb=>by
  obtain⟨x,hm,hg⟩:=get_m (l:=ix) (i:=(j:Int)) zf
  have ho:=hx x hm
  have e:=ixn_eq b x ho
  have el:=ixn_len x ho
  have ih:=ev_senc_l3 sd au en ac re rs ck od su mc ix l1 l2 l3 l4 l5 l6 ks hl hx k (j+1) (b++lN x) zf (by rw[List.length_append];omega)
  rw[lget_nat] at hg
  rw[show((j+1:Nat):Int)=(j:Int)+1 from by omega,List.append_assoc,<-List.flatMap_cons,<-drop_get hg,<-e] at ih
  rw[<-lget_nat] at hg
  obtain⟨-,-,q1,q2,q3,-⟩:=ho
  rw[JB];conv=>lhs;whnf
  refine to ?_
  rw[hg]
  refine tq ?_
  rw[ev_uint _ _ _ NE]
  refine tq ?_
  rw[ev_bit _]
  refine tq ?_
  rw[ev_blob _ _ NE]
  refine tq ?_
  rw[ev_blob _ _ NE]
  refine tq ?_
  rw[ev_blob _ _ NE]
  refine tq ?_
  exact ih
theorem ev_senc_l4(ks:List (El IJ))(hl:ks.length<=8)(hx:∀ x∈ks,iW x):∀(k j:Nat) (b:List UInt8),j+k=ks.length->b.length+300*k<=60000 ->
  Y E0 (.loop 78 3 0 2 [(3,.pa 0 0),(137,.sl IJ ks),(138,.i (ks.length:Int)),(139,.i (j:Int))] [(0,some (.var [.nm 1])),(1,some (.row 5 .u8 b))])
   = some (.fin (.exit 6) 2 [(3,.pa 0 0)] [(0,some (.var [.nm 1])),(1,some (.row 5 .u8 (b++(ks.drop j).flatMap lQ)))])
 | 0,j,b,hj,hb=>by
  obtain rfl:j=ks.length:=zf
  rw[List.drop_length,List.flatMap_nil,List.append_nil]
  rw[JB];conv=>lhs;whnf
  refine tq ?_
  with_reducible rfl
 | k+1,j,b,hj,hb=>by
  obtain⟨x,hm,hg⟩:=get_m (l:=ks) (i:=(j:Int)) zf
  have ho:=hx x hm
  have e:=lef_eq b x ho
  have el:=lef_len x ho
  have ih:=ev_senc_l4 ks hl hx k (j+1) (b++lQ x) zf (by rw[List.length_append];omega)
  rw[lget_nat] at hg
  rw[show((j+1:Nat):Int)=(j:Int)+1 from by omega,List.append_assoc,<-List.flatMap_cons,<-drop_get hg,<-e] at ih
  rw[<-lget_nat] at hg
  obtain⟨q1,-⟩:=ho
  rw[JB];conv=>lhs;whnf
  refine to ?_
  rw[hg]
  refine tq ?_
  rw[ev_blob _ _ NE]
  refine tq ?_
  exact ih
theorem ev_senc_m4(ks:List (El IJ))(hl:ks.length<=8)(hx:∀ x∈ks,iW x)(b:List UInt8)(hb:b.length<=50000):
  Y E0 (.loop 78 3 0 2 [(3,.pa 0 0),(137,.sl IJ ks),(138,.i (Ar ks)),(139,.i 0)] [(0,some (.var [.nm 1])),(1,some (.row 5 .u8 b))])
   = some (.fin (.exit 6) 2 [(3,.pa 0 0)] [(0,some (.var [.nm 1])),(1,some (.row 5 .u8 (b++ks.flatMap lQ)))]):=by
 have h:=ev_senc_l4 ks hl hx ks.length 0 b zf zf
 rw[QP];rw[List.drop_zero] at h;exact h
theorem ev_senc_m3(ks:List (El IJ))(hl:ix.length<=6)(hx:∀ x∈ix,iU x)(b:List UInt8)(hb:b.length<=40000):
  Y E0 (.loop 78 2 0 3 [(1,.pa 0 0),(3,.pa 1 0),(6,.fn 122 [] [.pa 1 0]),(74,.sl FU ix),(75,.i (Ar ix)),(76,.i 0)] [(0,some (.var (nS sd au en ac re rs ck od [] su mc ix l1 l2 l3 l4 l5 l6 ks))),(1,some (.var [.nm 2])),(2,some (.row 5 .u8 b))])
   = some (.fin (.exit 4) 3 [(1,.pa 0 0),(3,.pa 1 0),(6,.fn 122 [] [.pa 1 0])] [(0,some (.var (nS sd au en ac re rs ck od [] su mc ix l1 l2 l3 l4 l5 l6 ks))),(1,some (.var [.nm 2])),(2,some (.row 5 .u8 (b++ix.flatMap lN)))]):=by
 have h:=ev_senc_l3 sd au en ac re rs ck od su mc ix l1 l2 l3 l4 l5 l6 ks hl hx ix.length 0 b zf zf
 rw[QP];rw[List.drop_zero] at h;exact h
theorem fm_len{α:Type}{f:α->List UInt8}{m:Nat}:∀ {l:List α},(∀ x∈l,(f x).length<=m)->(l.flatMap f).length<=m*l.length
 | [],_=>zB
 | x::l,h=>by
  have:=fm_len (l:=l) fun y hy=>h y (List.mem_cons_of_mem _ hy)
  have:=h x (List.mem_cons_self ..)
  rw[List.flatMap_cons,List.length_append,List.length_cons,Nat.mul_add];omega
theorem ev_senc(ks:List (El IJ))(hs:sd.length=3)(ha:au.length=4)(hsm:∀ x∈sd,x.length<=1000)(ham:∀ x∈au,x.length<=1000)(he:en.length<=1000)(hi:ix.length<=6)(hix:∀ x∈ix,iU x)(hk:ks.length<=8)(hkx:∀ x∈ks,iW x):Y E0 (.call 78 [.agg (nS sd au en ac re rs ck od [] su mc ix l1 l2 l3 l4 l5 l6 ks)] [])=some (.ret (.sl .u8 (encS sd au en ac re rs ck od [] su mc ix l1 l2 l3 l4 l5 l6 ks)) []):=by
 have h0:=getD_len hsm 0
 have h1:=getD_len hsm 1
 have h2:=getD_len hsm 2
 have h3:=getD_len ham 0
 have h4:=getD_len ham 1
 have h5:=getD_len ham 2
 have h6:=getD_len ham 3
 have hF:(List.flatMap lN ix).length<=1800:=Nat.le_trans (fm_len (m:=300) fun x hx=>ixn_len x (hix x hx)) zf
 have hK:(List.flatMap lQ ks).length<=2400:=Nat.le_trans (fm_len (m:=300) fun x hx=>lef_len x (hkx x hx)) zf
 refine tq ?_
 rw[ev_senc_l1 (hs:=hs) (hsm:=hsm) (b:=[UInt8.ofNat 1,D5 ac]) (hb:=zB)]
 refine tq ?_
 rw[ev_senc_l2 _ _ _ _ _ _ _ _ _ _ _ _ _ _ _ _ _ _ zf zf _ (by(simp only[markB_len,n8_len,n4_len,n2_len,rcdB_len,bl_len,Gu,Zf,Zg,Zh,OO,XZ,Xa,XX,ZO,LL] at *<;>omega))]
 refine tq ?_
 rw[ev_blob _ _ (by(simp only[markB_len,n8_len,n4_len,n2_len,rcdB_len,bl_len,Gu,Zf,Zg,Zh,OO,XZ,Xa,XX,ZO,LL] at *<;>omega))]
 refine tq ?_
 rw[ev_nums3 _ _ _ _ (by(simp only[markB_len,n8_len,n4_len,n2_len,rcdB_len,bl_len,Gu,Zf,Zg,Zh,OO,XZ,Xa,XX,ZO,LL] at *<;>omega))]
 refine tq ?_
 rw[ev_bit _]
 conv=>lhs;whnf
 rw[Ls (by(simp only[markB_len,n8_len,n4_len,n2_len,rcdB_len,bl_len,Gu,Zf,Zg,Zh,OO,XZ,Xa,XX,ZO,LL] at *<;>omega))]
 conv=>lhs;whnf
 try dsimp -iota -beta -eta -zeta only
 rw[drw zi];conv=>lhs;whnf
 try dsimp -iota -beta -eta -zeta only
 rw[OQ]
 rw[ev_renc0 _]
 refine tq ?_
 rw[ev_blob _ _ (by(simp only[markB_len,n8_len,n4_len,n2_len,rcdB_len,bl_len,Gu,Zf,Zg,Zh,OO,XZ,Xa,XX,ZO,LL] at *<;>omega))]
 refine tq ?_
 rw[ev_nums1 _ _ (by(simp only[markB_len,n8_len,n4_len,n2_len,rcdB_len,bl_len,Gu,Zf,Zg,Zh,OO,XZ,Xa,XX,ZO,LL] at *<;>omega))]
 conv=>lhs;whnf
 rw[Ls (by(simp only[markB_len,n8_len,n4_len,n2_len,rcdB_len,bl_len,Gu,Zf,Zg,Zh,OO,XZ,Xa,XX,ZO,LL] at *<;>omega))]
 conv=>lhs;whnf
 try dsimp -iota -beta -eta -zeta only
 rw[TR]
 rw[ev_senc_m3 _ _ _ _ _ _ _ _ _ _ _ _ _ _ _ _ _ _ zf zf _ (by(simp only[markB_len,n8_len,n4_len,n2_len,rcdB_len,bl_len,Gu,Zf,Zg,Zh,OO,XZ,Xa,XX,ZO,LL] at *<;>omega))]
 refine tq ?_
 rw[ev_nums6 _ _ _ _ _ _ _ (by(simp only[markB_len,n8_len,n4_len,n2_len,rcdB_len,bl_len,Gu,Zf,Zg,Zh,OO,XZ,Xa,XX,ZO,LL] at *<;>omega))]
 conv=>lhs;whnf
 rw[Ls (by(simp only[markB_len,n8_len,n4_len,n2_len,rcdB_len,bl_len,Gu,Zf,Zg,Zh,OO,XZ,Xa,XX,ZO,LL] at *<;>omega))]
 conv=>lhs;whnf
 rw[JB]
 conv=>lhs;whnf
 try dsimp -iota -beta -eta -zeta only
 rw[TR]
 rw[ev_senc_m4 ks hk hkx _ (by(simp only[markB_len,n8_len,n4_len,n2_len,rcdB_len,bl_len,Gu,Zf,Zg,Zh,OO,XZ,Xa,XX,ZO,LL] at *<;>omega))]
 refine tq ?_
 (delta encS;rw[regB0];simp only[UH,QP,iu8_eq,blob_bl (show en.length<=65535 by omega),blob_bl (show(0::n8 su).length<=65535 by rw[List.length_cons,n8_len];omega),show UInt8.ofNat 1=1 from rfl])
end
section
attribute [local irreducible] BL BM BN BO BP BJ BQ CX Cm CY CW Ba Bc BF BC and' BG Bd Aa Ac Ad Ae Af AL AO AP AQ BR D8 BU D5 Be Bf Ag Ah Ai Aj AB AZ AU Ar BA BV BH BB Au Aw BI Bg BX fits BZ BK A7 A8 AC
theorem ev_parent(h i:Int)(l r:List UInt8)(hl:l.length<=1000000)(hr:r.length<=1000000):Y E0 (.call 333 [.i h,.i i,.sl .u8 l,.sl .u8 r] [])=some (.ret (.sl .u8 (YC h i l r)) []):=by
 refine tq ?_;rw[ev_dig_hash _ _ (by rw[frame3_len];simp;omega) zB]
 refine tq ?_;simp only[iu8_eq];rfl
theorem ev_height_loop(n:Int):Y E0 (.loop 358 0 0 0 [(0,.i n),(3,.i 0)] [])=(if NQ n<0 then some (.fin (.exit 0) 0 [] []) else some (.fin .ret 0 [(2,.i (NQ n))] [])):=by
 unfold NQ
 refine tq ?_;rw[show Ba 1 (Bf 0).toNat=1 from ishl1 zh];refine tq ?_
 rcases ieq_c n 1 with hc0|hc0
 ·subst hc0;refine tq ?_
  simp[*]
 refine tq ?_;refine tq ?_;rw[show Ba 1 (Bf (0+1)).toNat=2 from ishl1 zh];refine tq ?_
 rcases ieq_c n 2 with hc1|hc1
 ·subst hc1;refine tq ?_
  simp[*]
 refine tq ?_;refine tq ?_;rw[show Ba 1 (Bf (0+1+1)).toNat=4 from ishl1 zh];refine tq ?_
 rcases ieq_c n 4 with hc2|hc2
 ·subst hc2;refine tq ?_
  simp[*]
 refine tq ?_;refine tq ?_;rw[show Ba 1 (Bf (0+1+1+1)).toNat=8 from ishl1 zh];refine tq ?_
 rcases ieq_c n 8 with hc3|hc3
 ·subst hc3;refine tq ?_
  simp[*]
 refine tq ?_;refine tq ?_
 simp[*]
theorem ev_height(n:Int):Y E0 (.call 358 [.i n] [])=some (.ret (.i (NQ n)) []):=by
 by_cases h:NQ n<0
 ·have h1:NQ n = -1:=by(unfold NQ at *;(repeat' split at h)<;>first|omega|simp[*])
  refine tq ?_;rw[ev_height_loop,if_pos h];refine tq ?_;rw[h1]
 ·refine tq ?_;rw[ev_height_loop,if_neg h];exact tq rfl
theorem ev_levels_loop1(O:List (List (List UInt8)))(h:Nat)(ls:List (List UInt8))(hO:O[h]?=some ls)(hOl:O.length<=10)(hm:∀ l∈ls,l.length<=1000000)(hn:ls.length<=1000):∀(k i:Nat) (acc:List (List UInt8)),ls.length=2*i+2*k->acc.length<=i ->
  Y E0 (.loop 359 1 0 2 [(3,.nm 0),(4,.i h),(5,.nm 1),(6,.i i)] [(0,some (.row 24 (.sl (.sl .u8)) O)),(1,some (.row 22 (.sl .u8) acc))])=some (.fin (.exit 2) 1 [(3,.nm 0),(4,.i h),(5,.sl (.sl .u8) (acc++lI h i (ls.drop (2*i))))] [(0,some (.row 24 (.sl (.sl .u8)) O))])
 | k,i,acc,hi,ha=>by
  have hg:BA O (h:Int)=some ls:=by rw[lget_nat];exact hO
  have hh:h<O.length:=(List.getElem?_eq_some_iff.1 hO).1
  by_cases hc:2*i+1<ls.length
  ·obtain⟨k,rfl⟩:∃ j,k=j+1:=⟨k-1,by omega⟩
   have h1:=hm _ (List.getElem_mem (l:=ls) (n:=2*i) zf)
   have h2:=hm _ (List.getElem_mem (l:=ls) (n:=2*i+1) zf)
   have ih:=ev_levels_loop1 O h ls hO hOl hm hn k (i+1) (acc++[YC h i ls[2*i] ls[2*i+1]]) zf zx
   rw[drop2 hc,lI];rw[List.append_assoc,List.singleton_append] at ih
   rw[JB];conv=>lhs;whnf
   rw[bY zf]
   conv=>lhs;whnf
   try dsimp -iota -beta -eta -zeta only
   rw[hg];refine to ?_;rw[hg]
   conv=>lhs;whnf
   rw[ZH zf];rw[lget_i zf]
   conv=>lhs;whnf
   rw[bY zf]
   conv=>lhs;whnf
   try dsimp -iota -beta -eta -zeta only
   rw[hg]
   conv=>lhs;whnf
   rw[ZH zf];rw[ZF zf];rw[lget_i zf]
   conv=>lhs;whnf
   try dsimp -iota -beta -eta -zeta only
   rw[OQ];rw[ev_parent _ _ _ _ NE NE];refine tq ?_
   refine(congrArg (Y E0) ?_).trans ih;(try simp only[Rq.loop.injEq,Rq.call.injEq,Rq.ops.injEq,List.cons.injEq,Prod.mk.injEq,AV.i.injEq,AV.sl.injEq,AV.st.injEq,AV.b.injEq,AV.u8.injEq,AV.nm.injEq,Option.some.injEq,Rs.row.injEq,Rs.var.injEq,heq_eq_eq,true_and,and_true]);(try(repeat' apply And.intro));all_goals first|(with_reducible rfl)|omega|(rw[ZF zf];omega)|(rw[ZG zf];omega)|(rw[UH];rfl)
  ·rw[upB_one _ _ _ (by rw[List.length_drop];omega),List.append_nil]
   rw[JB];conv=>lhs;whnf
   rw[bY zf]
   conv=>lhs;whnf
   try dsimp -iota -beta -eta -zeta only
   rw[hg];exact tq rfl
theorem ev_levels_loop:∀(k h:Nat) (pre:List (List (List UInt8))) (cur:List (List UInt8)),k<=3->pre.length=h->h<=3->cur.length=2^k->(∀ l∈cur,l.length<=1000000)->h+k<=3->Y E0 (.loop 359 0 0 1 [(3,.nm 0),(4,.i h)] [(0,some (.row 24 (.sl (.sl .u8)) (pre++[cur])))])=some (.fin (.exit 0) 0 [(3,.sl (.sl (.sl .u8)) (pre++levB k h cur))] [])
 | 0,h,pre,cur,hk,hp,hh,hc,hm,hs=>by
  have hg:=lget_snoc pre cur h zf
  have hpl:(pre++[cur]).length=h+1:=zx
  rw[levB]
  refine to ?_;rw[hg];exact tq rfl
 | k+1,h,pre,cur,hk,hp,hh,hc,hm,hs=>by
  have hg:=lget_snoc pre cur h zf
  have hpl:(pre++[cur]).length=h+1:=zx
  have hc':cur.length=2*2^k:=by rw[hc,Nat.pow_succ];omega
  have hk1:1<=2^k:=Nat.one_le_two_pow
  have hk2:2^k<=4:=by
   have:=Nat.pow_le_pow_right (n:=2) zf (show k<=2 by omega);simpa using this
  have h1:=ev_levels_loop1 (pre++[cur]) h cur (by subst hp;simp) zf hm zf (2^k) 0 [] zf zB
  have ih:=ev_levels_loop k (h+1) (pre++[cur]) (lI h 0 cur) zf zx zf (by rw[upB_len _ _ _ _ (Nat.le_refl _)];omega) (upB_mem h _ 0 cur (Nat.le_refl _)) zf
  rw[List.nil_append,Nat.mul_zero,List.drop_zero,show((0:Nat):Int)=0 from rfl] at h1;rw[levB];rw[show((h+1:Nat):Int)=(h:Int)+1 from by omega] at ih;simp only[List.append_assoc,List.cons_append,List.nil_append] at ih
  refine to ?_;rw[hg];refine tq ?_;rw[h1];refine tq ?_
  refine(congrArg (Y E0) ?_).trans ih;(try simp only[Rq.loop.injEq,Rq.call.injEq,Rq.ops.injEq,List.cons.injEq,Prod.mk.injEq,AV.i.injEq,AV.sl.injEq,AV.st.injEq,AV.b.injEq,AV.u8.injEq,AV.nm.injEq,Option.some.injEq,Rs.row.injEq,Rs.var.injEq,heq_eq_eq,true_and,and_true]);(try(repeat' apply And.intro));all_goals first|(with_reducible rfl)|omega|(rw[ZF zf];omega)|(rw[ZG zf];omega)|(rw[UH,List.append_assoc];rfl)
theorem ev_levels(k:Nat)(ls:List (List UInt8))(hk:k<=3)(hl:ls.length=2^k)(hm:∀ l∈ls,l.length<=1000000):Y E0 (.call 359 [.sl (.sl .u8) ls] [])=some (.ret (.sl (.sl (.sl .u8)) (levB k 0 ls)) []):=by
 have h0:=ev_levels_loop k 0 [] ls hk rfl zf hl hm zf
 rw[List.nil_append,List.nil_append,show((0:Nat):Int)=0 from rfl] at h0;refine tq ?_;rw[h0];exact tq rfl
theorem ev_troot(ls:List (List UInt8))(hm:∀ l∈ls,l.length<=1000000)(hn:ls.length<=1000):Y E0 (.call 352 [.sl (.sl .u8) ls] [])=some (.ret (.sl .u8 (aB ls)) []):=by
 by_cases h:NQ ls.length<0
 ·refine tq ?_;rw[ev_height _];refine tq ?_
  unfold aB;(repeat(first|rw[if_pos (by first|omega|decide|assumption|(simp only[Gu,LL] at *<;>omega)|(simp;omega))]|rw[if_neg (by first|omega|decide|assumption|(simp only[Gu,LL] at *<;>omega)|(simp;omega))]));try simp only[NO]
 ·obtain⟨k,hk,hk2,hk3⟩:=height_pow ls.length h
  have hlv:=ev_levels k ls hk hk3 hm
  have hg:BA (levB k 0 ls) (k:Int)=some (lX k 0 ls):=by rw[lget_nat];exact levB_get k 0 ls k (Nat.le_refl _)
  have hln:=upN_len k 0 ls 0 hk3
  have hx:=upN_mem k 0 ls hm _ (List.getElem_mem (l:=lX k 0 ls) (n:=0) zf)
  refine tq ?_;rw[QP,ev_height,hk2];refine tq ?_;rw[hlv];refine tq ?_;rw[hg];refine tq ?_;rw[lget_i zf];refine tq ?_
  unfold aB;rw[hk2,if_neg zf];simp[UH,List.getD,hln]
end
end Go.Proofs.YtanagnimhaemgaaGreatDoor
