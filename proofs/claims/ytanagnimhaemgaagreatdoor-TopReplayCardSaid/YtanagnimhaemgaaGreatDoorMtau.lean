/-
  Own texts, laid together for this claim: contracts of functions of the program and its references, used by the statements of this seat.
-/
import Derived.Test.YtanagnimhaemgaaGreatDoorMtab
import Derived.Test.YtanagnimhaemgaaGreatDoorMtac
import Derived.Test.YtanagnimhaemgaaGreatDoorMtad
import Derived.Test.YtanagnimhaemgaaGreatDoorMtah
import Derived.Test.YtanagnimhaemgaaGreatDoorMtaj
import Derived.Test.YtanagnimhaemgaaGreatDoorMtal
set_option linter.all false
set_option maxHeartbeats 40000000
set_option maxRecDepth 100000
namespace Go.Proofs.YtanagnimhaemgaaGreatDoor
open Go Go.Ax Go.Eng
variable (c n:Int)(hs:List Int)(az:List (El MR))(is:List Int)(bs:List (List UInt8))
section
attribute [local irreducible] BL BM BN BO BP BJ BQ CX Cm CY CW Ba Bc BF BC and' BG Bd Aa Ac Ad Ae Af AL AO AP AQ BR D8 BU D5 Be Bf Ag Ah Ai Aj AB AZ AU Ar BA BV BH BB Au Aw BI Bg BX fits BZ BK A7 A8 AC
theorem ev_shape1_l:Y E0 (.loop 158 0 0 0 [(0,.i 1),(9,.agg nU),(10,.i 0)] [])=some (.fin .ret 0 [(2,.i 0),(3,.i 0),(4,.i 1),(5,.i 0),(6,.b true)] []):=by
 rw[JB];conv=>lhs;whnf
 exact tq rfl
theorem ev_shape1:Y E0 (.call 158 [.i 1] [])=some (.ret (.tup [.i 0,.i 0,.i 1,.i 0,.b true]) []):=by
 refine tq ?_
 rw[ev_shape1_l]
 exact tq rfl
theorem ev_shape9_l:Y E0 (.loop 158 0 0 0 [(0,.i 9),(9,.agg nU),(10,.i 0)] [])=some (.fin .ret 0 [(2,.i 1),(3,.i 1),(4,.i 3),(5,.i 3),(6,.b true)] []):=by
 rw[JB];conv=>lhs;whnf
 refine tq ?_
 refine tq ?_
 refine tq ?_
 refine tq ?_
 refine tq ?_
 refine tq ?_
 refine tq ?_
 exact tq rfl
theorem ev_shape9:Y E0 (.call 158 [.i 9] [])=some (.ret (.tup [.i 1,.i 1,.i 3,.i 3,.b true]) []):=by
 refine tq ?_
 rw[ev_shape9_l]
 exact tq rfl
theorem ev_shape13_l:Y E0 (.loop 158 0 0 0 [(0,.i 13),(9,.agg nU),(10,.i 0)] [])=some (.fin .ret 0 [(2,.i 1),(3,.i 1),(4,.i 0),(5,.i 0),(6,.b true)] []):=by
 rw[JB];conv=>lhs;whnf
 refine tq ?_
 refine tq ?_
 refine tq ?_
 refine tq ?_
 refine tq ?_
 refine tq ?_
 refine tq ?_
 refine tq ?_
 refine tq ?_
 refine tq ?_
 refine tq ?_
 exact tq rfl
theorem ev_shape13:Y E0 (.call 158 [.i 13] [])=some (.ret (.tup [.i 1,.i 1,.i 0,.i 0,.b true]) []):=by
 refine tq ?_
 rw[ev_shape13_l]
 exact tq rfl
theorem ev_shape16_l:Y E0 (.loop 158 0 0 0 [(0,.i 16),(9,.agg nU),(10,.i 0)] [])=some (.fin .ret 0 [(2,.i 0),(3,.i 0),(4,.i 1),(5,.i 0),(6,.b true)] []):=by
 rw[JB];conv=>lhs;whnf
 refine tq ?_
 refine tq ?_
 refine tq ?_
 refine tq ?_
 refine tq ?_
 refine tq ?_
 refine tq ?_
 refine tq ?_
 refine tq ?_
 refine tq ?_
 refine tq ?_
 refine tq ?_
 refine tq ?_
 refine tq ?_
 exact tq rfl
theorem ev_shape16:Y E0 (.call 158 [.i 16] [])=some (.ret (.tup [.i 0,.i 0,.i 1,.i 0,.b true]) []):=by
 refine tq ?_
 rw[ev_shape16_l]
 exact tq rfl
theorem ev_shape17_l:Y E0 (.loop 158 0 0 0 [(0,.i 17),(9,.agg nU),(10,.i 0)] [])=some (.fin .ret 0 [(2,.i 0),(3,.i 0),(4,.i 6),(5,.i (-1)),(6,.b true)] []):=by
 rw[JB];conv=>lhs;whnf
 refine tq ?_
 refine tq ?_
 refine tq ?_
 refine tq ?_
 refine tq ?_
 refine tq ?_
 refine tq ?_
 refine tq ?_
 refine tq ?_
 refine tq ?_
 refine tq ?_
 refine tq ?_
 refine tq ?_
 refine tq ?_
 refine tq ?_
 exact tq rfl
theorem ev_shape17:Y E0 (.call 158 [.i 17] [])=some (.ret (.tup [.i 0,.i 0,.i 6,.i (-1),.b true]) []):=by
 refine tq ?_
 rw[ev_shape17_l]
 exact tq rfl
theorem ev_shape21_l:Y E0 (.loop 158 0 0 0 [(0,.i 21),(9,.agg nU),(10,.i 0)] [])=some (.fin .ret 0 [(2,.i 1),(3,.i 1),(4,.i 4),(5,.i 2),(6,.b true)] []):=by
 rw[JB];conv=>lhs;whnf
 refine tq ?_
 refine tq ?_
 refine tq ?_
 refine tq ?_
 refine tq ?_
 refine tq ?_
 refine tq ?_
 refine tq ?_
 refine tq ?_
 refine tq ?_
 refine tq ?_
 refine tq ?_
 refine tq ?_
 refine tq ?_
 refine tq ?_
 refine tq ?_
 refine tq ?_
 refine tq ?_
 refine tq ?_
 exact tq rfl
theorem ev_shape21:Y E0 (.call 158 [.i 21] [])=some (.ret (.tup [.i 1,.i 1,.i 4,.i 2,.b true]) []):=by
 refine tq ?_
 rw[ev_shape21_l]
 exact tq rfl
theorem ev_shape22_l:Y E0 (.loop 158 0 0 0 [(0,.i 22),(9,.agg nU),(10,.i 0)] [])=some (.fin .ret 0 [(2,.i 1),(3,.i 1),(4,.i 1),(5,.i 0),(6,.b true)] []):=by
 rw[JB];conv=>lhs;whnf
 refine tq ?_
 refine tq ?_
 refine tq ?_
 refine tq ?_
 refine tq ?_
 refine tq ?_
 refine tq ?_
 refine tq ?_
 refine tq ?_
 refine tq ?_
 refine tq ?_
 refine tq ?_
 refine tq ?_
 refine tq ?_
 refine tq ?_
 refine tq ?_
 refine tq ?_
 refine tq ?_
 refine tq ?_
 refine tq ?_
 exact tq rfl
theorem ev_shape22:Y E0 (.call 158 [.i 22] [])=some (.ret (.tup [.i 1,.i 1,.i 1,.i 0,.b true]) []):=by
 refine tq ?_
 rw[ev_shape22_l]
 exact tq rfl
theorem ev_shape30_l:Y E0 (.loop 158 0 0 0 [(0,.i 30),(9,.agg nU),(10,.i 0)] [])=some (.fin .ret 0 [(2,.i 1),(3,.i 1),(4,.i 0),(5,.i 1),(6,.b true)] []):=by
 rw[JB];conv=>lhs;whnf
 refine tq ?_
 refine tq ?_
 refine tq ?_
 refine tq ?_
 refine tq ?_
 refine tq ?_
 refine tq ?_
 refine tq ?_
 refine tq ?_
 refine tq ?_
 refine tq ?_
 refine tq ?_
 refine tq ?_
 refine tq ?_
 refine tq ?_
 refine tq ?_
 refine tq ?_
 refine tq ?_
 refine tq ?_
 refine tq ?_
 refine tq ?_
 refine tq ?_
 refine tq ?_
 refine tq ?_
 refine tq ?_
 refine tq ?_
 refine tq ?_
 refine tq ?_
 exact tq rfl
theorem ev_shape30:Y E0 (.call 158 [.i 30] [])=some (.ret (.tup [.i 1,.i 1,.i 0,.i 1,.b true]) []):=by
 refine tq ?_
 rw[ev_shape30_l]
 exact tq rfl
theorem ev_counted:Y E0 (.call 159 [.i n,.i n] [])=some (.ret (.b true) []):=by
 refine tq ?_
 with_reducible rfl
theorem ev_counted_m(h:0<=n/\n<=8):Y E0 (.call 159 [.i n,.i (-1)] [])=some (.ret (.b true) []):=by
 refine tq ?_
 with_reducible rfl
theorem ev_cword(h:0<=n/\n<=65535):Y E0 (.call 179 [.i n] [])=some (.ret (.b true) []):=by
 refine tq ?_
 with_reducible rfl
theorem ev_cw_l0(c:Int)(hs:List Int)(az:List (El MR))(is:List Int)(bs:List (List UInt8))(hl:hs.length<=10):∀(k j:Nat) (b:List UInt8),j+k=hs.length->b.length+2*k<=1000 ->
  Y E0 (.loop 180 0 0 2 [(1,.pa 0 0),(3,.nm 1),(20,.sl .i64 hs),(21,.i (hs.length:Int)),(22,.i (j:Int))] [(0,some (.var [.i c,.sl .i64 hs,.sl MR az,.sl .i64 is,.sl (.sl .u8) bs])),(1,some (.row 5 .u8 b))])
   = some (.fin (.exit 0) 2 [(1,.pa 0 0),(3,.nm 1)] [(0,some (.var [.i c,.sl .i64 hs,.sl MR az,.sl .i64 is,.sl (.sl .u8) bs])),(1,some (.row 5 .u8 (b++(hs.drop j).flatMap n2)))])
 | 0,j,b,hj,hb=>by
  obtain rfl:j=hs.length:=zf
  rw[List.drop_length,List.flatMap_nil,List.append_nil]
  rw[JB];conv=>lhs;whnf
  refine tq ?_
  with_reducible rfl
 | k+1,j,b,hj,hb=>by
  obtain⟨x,hm,hg⟩:=get_m (l:=hs) (i:=(j:Int)) zf
  have ih:=ev_cw_l0 c hs az is bs hl k (j+1) (b++n2 x) zf (by rw[List.length_append,n2_len];omega)
  rw[lget_nat] at hg
  rw[show((j+1:Nat):Int)=(j:Int)+1 from by omega,List.append_assoc,<-List.flatMap_cons,<-drop_get hg,<-uint_n2] at ih
  rw[<-lget_nat] at hg
  rw[JB];conv=>lhs;whnf
  refine to ?_
  rw[hg]
  refine tq ?_
  rw[ev_uint _ _ _ NE]
  refine tq ?_
  exact ih
theorem ev_cw_m0(hl:hs.length<=10)(b:List UInt8)(hb:b.length<=100):
  Y E0 (.loop 180 0 0 2 [(1,.pa 0 0),(3,.nm 1),(20,.sl .i64 hs),(21,.i (Ar hs)),(22,.i 0)] [(0,some (.var [.i c,.sl .i64 hs,.sl MR az,.sl .i64 is,.sl (.sl .u8) bs])),(1,some (.row 5 .u8 b))])
   = some (.fin (.exit 0) 2 [(1,.pa 0 0),(3,.nm 1)] [(0,some (.var [.i c,.sl .i64 hs,.sl MR az,.sl .i64 is,.sl (.sl .u8) bs])),(1,some (.row 5 .u8 (b++hs.flatMap n2)))]):=by
 have h:=ev_cw_l0 c hs az is bs hl hs.length 0 b zf zf
 rw[QP];rw[List.drop_zero] at h;exact h
theorem aut_eq(b:List UInt8)(x:El MR)(h:x.2.1.length<=1000/\x.2.2.length<=1000):J8 (J8 (Bz b 2 x.1) x.2.1) x.2.2=b++lS x:=by
 rw[blob_bl zf,blob_bl zf,uint_n2,lS];simp only[List.append_assoc]
theorem aut_len(x:El MR)(h:x.2.1.length<=1000/\x.2.2.length<=1000):(lS x).length<=2006:=by
 simp only[lS,List.length_append,n2_len,bl_len];omega
theorem ev_cw_l1(c:Int)(hs:List Int)(az:List (El MR))(is:List Int)(bs:List (List UInt8))(hl:az.length<=10)(hx:∀ x∈az,x.2.1.length<=1000/\x.2.2.length<=1000):∀(k j:Nat) (b:List UInt8),j+k=az.length->b.length+2006*k<=50000 ->
  Y E0 (.loop 180 1 0 2 [(1,.pa 0 0),(3,.nm 1),(31,.sl MR az),(32,.i (az.length:Int)),(33,.i (j:Int))] [(0,some (.var [.i c,.sl .i64 hs,.sl MR az,.sl .i64 is,.sl (.sl .u8) bs])),(1,some (.row 5 .u8 b))])
   = some (.fin (.exit 2) 2 [(1,.pa 0 0),(3,.nm 1)] [(0,some (.var [.i c,.sl .i64 hs,.sl MR az,.sl .i64 is,.sl (.sl .u8) bs])),(1,some (.row 5 .u8 (b++(az.drop j).flatMap lS)))])
 | 0,j,b,hj,hb=>by
  obtain rfl:j=az.length:=zf
  rw[List.drop_length,List.flatMap_nil,List.append_nil]
  rw[JB];conv=>lhs;whnf
  refine tq ?_
  with_reducible rfl
 | k+1,j,b,hj,hb=>by
  obtain⟨x,hm,hg⟩:=get_m (l:=az) (i:=(j:Int)) zf
  have ho:=hx x hm
  have el:=aut_len x ho
  have ih:=ev_cw_l1 c hs az is bs hl hx k (j+1) (b++lS x) zf (by rw[List.length_append];omega)
  rw[lget_nat] at hg
  rw[show((j+1:Nat):Int)=(j:Int)+1 from by omega,List.append_assoc,<-List.flatMap_cons,<-drop_get hg,<-aut_eq b x ho] at ih
  rw[<-lget_nat] at hg
  rw[JB];conv=>lhs;whnf
  refine to ?_
  rw[hg]
  refine tq ?_
  rw[ev_uint _ _ _ NE]
  refine tq ?_
  rw[ev_blob _ _ NE]
  refine tq ?_
  rw[ev_blob _ _ NE]
  refine tq ?_
  exact ih
theorem ev_cw_m1(hl:az.length<=10)(hx:∀ x∈az,x.2.1.length<=1000/\x.2.2.length<=1000)(b:List UInt8)(hb:b.length<=20000):
  Y E0 (.loop 180 1 0 2 [(1,.pa 0 0),(3,.nm 1),(31,.sl MR az),(32,.i (Ar az)),(33,.i 0)] [(0,some (.var [.i c,.sl .i64 hs,.sl MR az,.sl .i64 is,.sl (.sl .u8) bs])),(1,some (.row 5 .u8 b))])
   = some (.fin (.exit 2) 2 [(1,.pa 0 0),(3,.nm 1)] [(0,some (.var [.i c,.sl .i64 hs,.sl MR az,.sl .i64 is,.sl (.sl .u8) bs])),(1,some (.row 5 .u8 (b++az.flatMap lS)))]):=by
 have h:=ev_cw_l1 c hs az is bs hl hx az.length 0 b zf zf
 rw[QP];rw[List.drop_zero] at h;exact h
theorem ev_cw_l2(c:Int)(hs:List Int)(az:List (El MR))(is:List Int)(bs:List (List UInt8))(hl:is.length<=10):∀(k j:Nat) (b:List UInt8),j+k=is.length->b.length+8*k<=50000 ->
  Y E0 (.loop 180 2 0 2 [(1,.pa 0 0),(3,.nm 1),(49,.sl .i64 is),(50,.i (is.length:Int)),(51,.i (j:Int))] [(0,some (.var [.i c,.sl .i64 hs,.sl MR az,.sl .i64 is,.sl (.sl .u8) bs])),(1,some (.row 5 .u8 b))])
   = some (.fin (.exit 4) 2 [(1,.pa 0 0),(3,.nm 1)] [(0,some (.var [.i c,.sl .i64 hs,.sl MR az,.sl .i64 is,.sl (.sl .u8) bs])),(1,some (.row 5 .u8 (b++(is.drop j).flatMap n8)))])
 | 0,j,b,hj,hb=>by
  obtain rfl:j=is.length:=zf
  rw[List.drop_length,List.flatMap_nil,List.append_nil]
  rw[JB];conv=>lhs;whnf
  refine tq ?_
  with_reducible rfl
 | k+1,j,b,hj,hb=>by
  obtain⟨x,hm,hg⟩:=get_m (l:=is) (i:=(j:Int)) zf
  have el:=n8_len x
  have ih:=ev_cw_l2 c hs az is bs hl k (j+1) (b++n8 x) zf (by rw[List.length_append];omega)
  rw[lget_nat] at hg
  rw[show((j+1:Nat):Int)=(j:Int)+1 from by omega,List.append_assoc,<-List.flatMap_cons,<-drop_get hg,<-uint_n8] at ih
  rw[<-lget_nat] at hg
  rw[JB];conv=>lhs;whnf
  refine to ?_
  rw[hg]
  refine tq ?_
  rw[ev_uint _ _ _ NE]
  refine tq ?_
  exact ih
theorem ev_cw_m2(hl:is.length<=10)(b:List UInt8)(hb:b.length<=40000):
  Y E0 (.loop 180 2 0 2 [(1,.pa 0 0),(3,.nm 1),(49,.sl .i64 is),(50,.i (Ar is)),(51,.i 0)] [(0,some (.var [.i c,.sl .i64 hs,.sl MR az,.sl .i64 is,.sl (.sl .u8) bs])),(1,some (.row 5 .u8 b))])
   = some (.fin (.exit 4) 2 [(1,.pa 0 0),(3,.nm 1)] [(0,some (.var [.i c,.sl .i64 hs,.sl MR az,.sl .i64 is,.sl (.sl .u8) bs])),(1,some (.row 5 .u8 (b++is.flatMap n8)))]):=by
 have h:=ev_cw_l2 c hs az is bs hl is.length 0 b zf zf
 rw[QP];rw[List.drop_zero] at h;exact h
theorem ev_cw_l3(bs:List (List UInt8))(hl:bs.length<=10)(hx:∀ x∈bs,x.length<=2000):∀(k j:Nat) (b:List UInt8),j+k=bs.length->b.length+2002*k<=100000 ->
  Y E0 (.loop 180 3 0 1 [(3,.nm 0),(67,.sl (.sl .u8) bs),(68,.i (bs.length:Int)),(69,.i (j:Int))] [(0,some (.row 5 .u8 b))])
   = some (.fin (.exit 6) 1 [(3,.nm 0)] [(0,some (.row 5 .u8 (b++(bs.drop j).flatMap bl)))])
 | 0,j,b,hj,hb=>by
  obtain rfl:j=bs.length:=zf
  rw[List.drop_length,List.flatMap_nil,List.append_nil]
  rw[JB];conv=>lhs;whnf
  refine tq ?_
  with_reducible rfl
 | k+1,j,b,hj,hb=>by
  obtain⟨x,hm,hg⟩:=get_m (l:=bs) (i:=(j:Int)) zf
  have ho:=hx x hm
  have el:=bl_len x
  have ih:=ev_cw_l3 bs hl hx k (j+1) (b++bl x) zf (by rw[List.length_append];omega)
  rw[lget_nat] at hg
  rw[show((j+1:Nat):Int)=(j:Int)+1 from by omega,List.append_assoc,<-List.flatMap_cons,<-drop_get hg,<-blob_bl (show x.length<=65535 by omega)] at ih
  rw[<-lget_nat] at hg
  rw[JB];conv=>lhs;whnf
  refine to ?_
  rw[hg]
  refine tq ?_
  rw[ev_blob _ _ NE]
  refine tq ?_
  exact ih
theorem ev_cw_m3(hl:bs.length<=10)(hx:∀ x∈bs,x.length<=2000)(b:List UInt8)(hb:b.length<=70000):
  Y E0 (.loop 180 3 0 1 [(3,.nm 0),(67,.sl (.sl .u8) bs),(68,.i (Ar bs)),(69,.i 0)] [(0,some (.row 5 .u8 b))])
   = some (.fin (.exit 6) 1 [(3,.nm 0)] [(0,some (.row 5 .u8 (b++bs.flatMap bl)))]):=by
 have h:=ev_cw_l3 bs hl hx bs.length 0 b zf zf
 rw[QP];rw[List.drop_zero] at h;exact h
theorem wr_eq:Bg (Aw (Aw [UInt8.ofNat 83,UInt8.ofNat 87] [UInt8.ofNat 0,UInt8.ofNat 0,D5 c]++List.flatMap n2 hs++List.flatMap lS az++List.flatMap n8 is) [D5 (Ar bs)]++List.flatMap bl bs) 2 4 (Bz [] 2 (Ar (Aw (Aw [UInt8.ofNat 83,UInt8.ofNat 87] [UInt8.ofNat 0,UInt8.ofNat 0,D5 c]++List.flatMap n2 hs++List.flatMap lS az++List.flatMap n8 is) [D5 (Ar bs)]++List.flatMap bl bs)))=lT c hs az is bs:=by
 simp only[UH,QP,iu8_eq,uint_n2,List.nil_append,List.append_assoc,List.cons_append]
 rw[lT,aN]
 simp only[List.append_assoc,List.cons_append,List.nil_append,List.length_cons]
 generalize List.flatMap n2 hs++(List.flatMap lS az++(List.flatMap n8 is++UInt8.ofInt (bs.length:Int)::List.flatMap bl bs))=B
 rw[WT,lcpv0]
 have h2:=n2_len ((B.length+1+1+1+1+1:Nat):Int)
 rw[show(5:Int)+(B.length:Int)=((B.length+1+1+1+1+1:Nat):Int) from by omega]
 generalize n2 ((B.length+1+1+1+1+1:Nat):Int)=N at h2 ⊢
 have hN:N.take 2=N:=List.take_of_length_le zf
 rw[h2]
 show [_,_]++N.take 2++_::B=_
 rw[hN];simp
theorem ev_cwrite(hl:hs.length<=10)(hal:az.length<=10)(ham:∀ x∈az,x.2.1.length<=1000/\x.2.2.length<=1000)(hil:is.length<=10)(hbl:bs.length<=10)(hbm:∀ x∈bs,x.length<=2000):Y E0 (.call 180 [rq c hs az is bs] [])=some (.ret (.sl .u8 (lT c hs az is bs)) []):=by
 have hH:(hs.flatMap n2).length<=20:=Nat.le_trans (fm_len (m:=2) fun x _=>by rw[n2_len];decide) zf
 have hA:(az.flatMap lS).length<=20060:=Nat.le_trans (fm_len (m:=2006) fun x hx=>aut_len x (ham x hx)) zf
 have hI:(is.flatMap n8).length<=80:=Nat.le_trans (fm_len (m:=8) fun x _=>by rw[n8_len];decide) zf
 have hB:(bs.flatMap bl).length<=20020:=Nat.le_trans (fm_len (m:=2002) fun x hx=>by have:=hbm x hx;rw[bl_len];omega) zf
 refine tq ?_
 rw[ev_cw_m0 _ _ _ _ _ NE _ NE]
 refine tq ?_
 rw[ev_cw_m1 _ _ _ _ _ NE NE _ NE]
 refine tq ?_
 rw[ev_cw_m2 _ _ _ _ _ NE _ NE]
 refine tq ?_
 rw[ev_cw_m3 _ NE NE _ NE]
 refine tq ?_
 rw[ev_uint _ _ _ NE]
 refine tq ?_
 (rw[<-wr_eq])
theorem ev_cc_l0(c:Int)(hs:List Int)(az:List (El MR))(is:List Int)(bs:List (List UInt8))(hl:hs.length<=10)(hx:∀ x∈hs,0<=x/\x<=65535):∀(k j:Nat),j+k=hs.length ->
  Y E0 (.loop 160 0 0 1 [(1,.pa 0 0),(8,.b true),(57,.sl .i64 hs),(58,.i (hs.length:Int)),(59,.i (j:Int))] [(0,some (.var [.i c,.sl .i64 hs,.sl MR az,.sl .i64 is,.sl (.sl .u8) bs]))])=some (.fin (.exit 0) 1 [(1,.pa 0 0),(8,.b true)] [(0,some (.var [.i c,.sl .i64 hs,.sl MR az,.sl .i64 is,.sl (.sl .u8) bs]))])
 | 0,j,hj=>by
  obtain rfl:j=hs.length:=zf
  rw[JB];conv=>lhs;whnf
  refine tq ?_
  with_reducible rfl
 | k+1,j,hj=>by
  obtain⟨x,hm,hg⟩:=get_m (l:=hs) (i:=(j:Int)) zf
  have ho:=hx x hm
  have ih:=ev_cc_l0 c hs az is bs hl hx k (j+1) zf
  rw[show((j+1:Nat):Int)=(j:Int)+1 from by omega] at ih
  rw[JB];conv=>lhs;whnf
  refine to ?_
  rw[hg]
  refine tq ?_
  rw[ev_cword _ NE]
  refine tq ?_
  exact ih
theorem ev_cc_m0(hl:hs.length<=10)(hx:∀ x∈hs,0<=x/\x<=65535):
  Y E0 (.loop 160 0 0 1 [(1,.pa 0 0),(8,.b true),(57,.sl .i64 hs),(58,.i (Ar hs)),(59,.i 0)] [(0,some (.var [.i c,.sl .i64 hs,.sl MR az,.sl .i64 is,.sl (.sl .u8) bs]))])=some (.fin (.exit 0) 1 [(1,.pa 0 0),(8,.b true)] [(0,some (.var [.i c,.sl .i64 hs,.sl MR az,.sl .i64 is,.sl (.sl .u8) bs]))]):=by
 have h:=ev_cc_l0 c hs az is bs hl hx hs.length 0 zf
 rw[QP];exact h
theorem ev_cc_l1(c:Int)(hs:List Int)(az:List (El MR))(is:List Int)(bs:List (List UInt8))(hl:az.length<=10)(hx:∀ x∈az,0<=x.1/\x.1<=65535):∀(k j:Nat),j+k=az.length ->
  Y E0 (.loop 160 1 0 1 [(1,.pa 0 0),(8,.b true),(70,.sl MR az),(71,.i (az.length:Int)),(72,.i (j:Int))] [(0,some (.var [.i c,.sl .i64 hs,.sl MR az,.sl .i64 is,.sl (.sl .u8) bs]))])=some (.fin (.exit 2) 1 [(1,.pa 0 0),(8,.b true)] [(0,some (.var [.i c,.sl .i64 hs,.sl MR az,.sl .i64 is,.sl (.sl .u8) bs]))])
 | 0,j,hj=>by
  obtain rfl:j=az.length:=zf
  rw[JB];conv=>lhs;whnf
  refine tq ?_
  with_reducible rfl
 | k+1,j,hj=>by
  obtain⟨x,hm,hg⟩:=get_m (l:=az) (i:=(j:Int)) zf
  have ho:=hx x hm
  have ih:=ev_cc_l1 c hs az is bs hl hx k (j+1) zf
  rw[show((j+1:Nat):Int)=(j:Int)+1 from by omega] at ih
  rw[JB];conv=>lhs;whnf
  refine to ?_
  rw[hg]
  refine tq ?_
  rw[ev_cword _ NE]
  refine tq ?_
  exact ih
theorem ev_cc_m1(hl:az.length<=10)(hx:∀ x∈az,0<=x.1/\x.1<=65535):
  Y E0 (.loop 160 1 0 1 [(1,.pa 0 0),(8,.b true),(70,.sl MR az),(71,.i (Ar az)),(72,.i 0)] [(0,some (.var [.i c,.sl .i64 hs,.sl MR az,.sl .i64 is,.sl (.sl .u8) bs]))])=some (.fin (.exit 2) 1 [(1,.pa 0 0),(8,.b true)] [(0,some (.var [.i c,.sl .i64 hs,.sl MR az,.sl .i64 is,.sl (.sl .u8) bs]))]):=by
 have h:=ev_cc_l1 c hs az is bs hl hx az.length 0 zf
 rw[QP];exact h
theorem ev_cc_l2(c:Int)(hs:List Int)(az:List (El MR))(is:List Int)(bs:List (List UInt8))(hl:is.length<=10)(hx:∀ x∈is,0<=x/\x<=1099511627776):∀(k j:Nat),j+k=is.length ->
  Y E0 (.loop 160 2 0 1 [(1,.pa 0 0),(8,.b true),(84,.sl .i64 is),(85,.i (is.length:Int)),(86,.i (j:Int))] [(0,some (.var [.i c,.sl .i64 hs,.sl MR az,.sl .i64 is,.sl (.sl .u8) bs]))])=some (.fin (.exit 4) 1 [(1,.pa 0 0),(8,.b true)] [(0,some (.var [.i c,.sl .i64 hs,.sl MR az,.sl .i64 is,.sl (.sl .u8) bs]))])
 | 0,j,hj=>by
  obtain rfl:j=is.length:=zf
  rw[JB];conv=>lhs;whnf
  refine tq ?_
  with_reducible rfl
 | k+1,j,hj=>by
  obtain⟨x,hm,hg⟩:=get_m (l:=is) (i:=(j:Int)) zf
  have ho:=hx x hm
  have ih:=ev_cc_l2 c hs az is bs hl hx k (j+1) zf
  rw[show((j+1:Nat):Int)=(j:Int)+1 from by omega] at ih
  rw[JB];conv=>lhs;whnf
  refine to ?_
  rw[hg]
  conv=>lhs;whnf
  rw[fK zf]
  conv=>lhs;whnf
  try dsimp -iota -beta -eta -zeta only
  rw[ZF zf]
  rw[fK (show x<=1099511627776 by omega)];exact ih
theorem ev_cc_m2(hl:is.length<=10)(hx:∀ x∈is,0<=x/\x<=1099511627776):
  Y E0 (.loop 160 2 0 1 [(1,.pa 0 0),(8,.b true),(84,.sl .i64 is),(85,.i (Ar is)),(86,.i 0)] [(0,some (.var [.i c,.sl .i64 hs,.sl MR az,.sl .i64 is,.sl (.sl .u8) bs]))])=some (.fin (.exit 4) 1 [(1,.pa 0 0),(8,.b true)] [(0,some (.var [.i c,.sl .i64 hs,.sl MR az,.sl .i64 is,.sl (.sl .u8) bs]))]):=by
 have h:=ev_cc_l2 c hs az is bs hl hx is.length 0 zf
 rw[QP];exact h
theorem ev_cc_l3(c:Int)(hs:List Int)(az:List (El MR))(is:List Int)(bs:List (List UInt8))(hl:az.length<=10)(hx:∀ x∈az,x.2.1.length<=128/\x.2.2.length<=128):∀(k j:Nat),j+k=az.length ->
  Y E0 (.loop 160 3 0 1 [(1,.pa 0 0),(8,.b true),(103,.sl MR az),(104,.i (az.length:Int)),(105,.i (j:Int))] [(0,some (.var [.i c,.sl .i64 hs,.sl MR az,.sl .i64 is,.sl (.sl .u8) bs]))])=some (.fin (.exit 6) 1 [(1,.pa 0 0),(8,.b true)] [(0,some (.var [.i c,.sl .i64 hs,.sl MR az,.sl .i64 is,.sl (.sl .u8) bs]))])
 | 0,j,hj=>by
  obtain rfl:j=az.length:=zf
  rw[JB];conv=>lhs;whnf
  refine tq ?_
  with_reducible rfl
 | k+1,j,hj=>by
  obtain⟨x,hm,hg⟩:=get_m (l:=az) (i:=(j:Int)) zf
  have ho:=hx x hm
  have ih:=ev_cc_l3 c hs az is bs hl hx k (j+1) zf
  rw[show((j+1:Nat):Int)=(j:Int)+1 from by omega] at ih
  rw[JB];conv=>lhs;whnf
  refine to ?_
  rw[hg]
  conv=>lhs;whnf
  rw[fK (by(simp only[n8_len,n4_len,n2_len,bl_len,Gu,OO,Xa,ZO,LL] at *<;>omega))]
  conv=>lhs;whnf
  try dsimp -iota -beta -eta -zeta only
  rw[ZF zf]
  rw[fK (show Ar x.2.2<=128 by rw[QP];omega)];exact ih
theorem ev_cc_m3(hl:az.length<=10)(hx:∀ x∈az,x.2.1.length<=128/\x.2.2.length<=128):
  Y E0 (.loop 160 3 0 1 [(1,.pa 0 0),(8,.b true),(103,.sl MR az),(104,.i (Ar az)),(105,.i 0)] [(0,some (.var [.i c,.sl .i64 hs,.sl MR az,.sl .i64 is,.sl (.sl .u8) bs]))])=some (.fin (.exit 6) 1 [(1,.pa 0 0),(8,.b true)] [(0,some (.var [.i c,.sl .i64 hs,.sl MR az,.sl .i64 is,.sl (.sl .u8) bs]))]):=by
 have h:=ev_cc_l3 c hs az is bs hl hx az.length 0 zf
 rw[QP];exact h
theorem ev_cc_l4(c:Int)(hs:List Int)(az:List (El MR))(is:List Int)(bs:List (List UInt8))(hl:bs.length<=10)(hx:∀ x∈bs,x.length<=1024):∀(k j:Nat),j+k=bs.length ->
  Y E0 (.loop 160 4 0 1 [(1,.pa 0 0),(8,.b true),(124,.sl (.sl .u8) bs),(125,.i (bs.length:Int)),(126,.i (j:Int))] [(0,some (.var [.i c,.sl .i64 hs,.sl MR az,.sl .i64 is,.sl (.sl .u8) bs]))])=some (.fin (.exit 8) 1 [(1,.pa 0 0),(8,.b true)] [(0,some (.var [.i c,.sl .i64 hs,.sl MR az,.sl .i64 is,.sl (.sl .u8) bs]))])
 | 0,j,hj=>by
  obtain rfl:j=bs.length:=zf
  rw[JB];conv=>lhs;whnf
  refine tq ?_
  with_reducible rfl
 | k+1,j,hj=>by
  obtain⟨x,hm,hg⟩:=get_m (l:=bs) (i:=(j:Int)) zf
  have ho:=hx x hm
  have ih:=ev_cc_l4 c hs az is bs hl hx k (j+1) zf
  rw[show((j+1:Nat):Int)=(j:Int)+1 from by omega] at ih
  rw[JB];conv=>lhs;whnf
  refine to ?_
  rw[hg]
  conv=>lhs;whnf
  try dsimp -iota -beta -eta -zeta only
  rw[ZF zf]
  rw[fK (show Ar x<=1024 by rw[QP];omega)];exact ih
theorem ev_cc_m4(hl:bs.length<=10)(hx:∀ x∈bs,x.length<=1024):
  Y E0 (.loop 160 4 0 1 [(1,.pa 0 0),(8,.b true),(124,.sl (.sl .u8) bs),(125,.i (Ar bs)),(126,.i 0)] [(0,some (.var [.i c,.sl .i64 hs,.sl MR az,.sl .i64 is,.sl (.sl .u8) bs]))])=some (.fin (.exit 8) 1 [(1,.pa 0 0),(8,.b true)] [(0,some (.var [.i c,.sl .i64 hs,.sl MR az,.sl .i64 is,.sl (.sl .u8) bs]))]):=by
 have h:=ev_cc_l4 c hs az is bs hl hx bs.length 0 zf
 rw[QP];exact h
theorem ev_ccheck(nb:Int)(hs:List Int)(az:List (El MR))(is:List Int)(bs:List (List UInt8))(hsh:Y E0 (.call 158 [.i c] [])=some (.ret (.tup [.i (hs.length:Int),.i (az.length:Int),.i (is.length:Int),.i nb,.b true]) []))(hct:Y E0 (.call 159 [.i (bs.length:Int),.i nb] [])=some (.ret (.b true) []))(hl:hs.length<=10)(hal:az.length<=10)(hil:is.length<=10)(hbl:bs.length<=10)(hhm:∀ x∈hs,0<=x/\x<=65535)(ham:∀ x∈az,(0<=x.1/\x.1<=65535)/\x.2.1.length<=128/\x.2.2.length<=128)(him:∀ x∈is,0<=x/\x<=1099511627776)(hbm:∀ x∈bs,x.length<=1024)(hlen:(lT c hs az is bs).length<=2048):Y E0 (.call 160 [rq c hs az is bs] [])=some (.ret (.i 0) []):=by
 have hw:=ev_cwrite c hs az is bs hl hal (fun x hx=>by have:=ham x hx;omega) hil hbl (fun x hx=>by have:=hbm x hx;omega)
 have m0:=ev_cc_m0 c hs az is bs hl hhm
 have m1:=ev_cc_m1 c hs az is bs hal (fun x hx=>(ham x hx).1)
 have m2:=ev_cc_m2 c hs az is bs hil him
 have m3:=ev_cc_m3 c hs az is bs hal (fun x hx=>(ham x hx).2)
 have m4:=ev_cc_m4 c hs az is bs hbl hbm
 refine tq ?_
 rw[hsh]
 refine tq ?_
 rw[QP,hct]
 refine tq ?_
 rw[m0]
 refine tq ?_
 rw[m1]
 refine tq ?_
 rw[m2]
 refine tq ?_
 rw[m3]
 refine tq ?_
 rw[m4]
 refine tq ?_
 rw[hw]
 exact tq rfl
end
end Go.Proofs.YtanagnimhaemgaaGreatDoor
