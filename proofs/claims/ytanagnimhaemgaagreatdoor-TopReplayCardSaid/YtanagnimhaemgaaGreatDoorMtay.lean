/-
  Own texts, laid together for this claim: contracts of functions of the program and its references, used by the statements of this seat.
-/
import Derived.Test.YtanagnimhaemgaaGreatDoorMtab
import Derived.Test.YtanagnimhaemgaaGreatDoorMtac
import Derived.Test.YtanagnimhaemgaaGreatDoorMtad
import Derived.Test.YtanagnimhaemgaaGreatDoorMtaj
import Derived.Test.YtanagnimhaemgaaGreatDoorMtal
import Derived.Test.YtanagnimhaemgaaGreatDoorMtan
import Derived.Test.YtanagnimhaemgaaGreatDoorMtar
import Derived.Test.YtanagnimhaemgaaGreatDoorMtau
set_option linter.all false
set_option maxHeartbeats 40000000
set_option maxRecDepth 100000
namespace Go.Proofs.YtanagnimhaemgaaGreatDoor
open Go Go.Ax Go.Eng
variable (c:Int)(hs:List Int)(az:List (El MR))(is:List Int)(bs:List (List UInt8))
section
attribute [local irreducible] BL BM BN BO BP BJ BQ CX Cm CY CW Ba Bc BF BC and' BG Bd Aa Ac Ad Ae Af AL AO AP AQ BR D8 BU D5 Be Bf Ag Ah Ai Aj AB AZ AU Ar BA BV BH BB Au Aw BI Bg BX fits BZ BK A7 A8 AC
theorem ev_r22s1:Y E0 (.call 125 [.i 1] [])=some (.ret (.tup [.agg [.i 0,.i 0,.i 1,.i 0],.b true]) []):=by
 refine tq ?_;rw[ev_r22shapes];refine tq ?_;rfl
theorem ev_r22s9:Y E0 (.call 125 [.i 9] [])=some (.ret (.tup [.agg [.i 1,.i 1,.i 3,.i 3],.b true]) []):=by
 refine tq ?_;rw[ev_r22shapes];refine tq ?_;rfl
theorem ev_r22s13:Y E0 (.call 125 [.i 13] [])=some (.ret (.tup [.agg [.i 1,.i 1,.i 0,.i 0],.b true]) []):=by
 refine tq ?_;rw[ev_r22shapes];refine tq ?_;rfl
theorem ev_r22s16:Y E0 (.call 125 [.i 16] [])=some (.ret (.tup [.agg [.i 0,.i 0,.i 1,.i 0],.b true]) []):=by
 refine tq ?_;rw[ev_r22shapes];refine tq ?_;rfl
theorem ev_r22s17:Y E0 (.call 125 [.i 17] [])=some (.ret (.tup [.agg [.i 0,.i 0,.i 6,.i (-1)],.b true]) []):=by
 refine tq ?_;rw[ev_r22shapes];refine tq ?_;rfl
theorem ev_r22s21:Y E0 (.call 125 [.i 21] [])=some (.ret (.tup [.agg [.i 1,.i 1,.i 4,.i 2],.b true]) []):=by
 refine tq ?_;rw[ev_r22shapes];refine tq ?_;rfl
theorem ev_r22s22:Y E0 (.call 125 [.i 22] [])=some (.ret (.tup [.agg [.i 1,.i 1,.i 1,.i 0],.b true]) []):=by
 refine tq ?_;rw[ev_r22shapes];refine tq ?_;rfl
theorem ev_r22s30:Y E0 (.call 125 [.i 30] [])=some (.ret (.tup [.agg [.i 1,.i 1,.i 0,.i 1],.b true]) []):=by
 refine tq ?_;rw[ev_r22shapes];refine tq ?_;rfl
theorem ev_rf_l0(c:Int)(hs:List Int)(az:List (El MR))(is:List Int)(bs:List (List UInt8))(hl:hs.length<=10):∀(k j:Nat) (b:List UInt8),j+k=hs.length->b.length+2*k<=1000 ->
  Y E0 (.loop 80 0 0 2 [(1,.pa 0 0),(3,.nm 1),(4,.i (j:Int))] [(0,some (.var [.i c,.sl .i64 hs,.sl MR az,.sl .i64 is,.sl (.sl .u8) bs])),(1,some (.row 5 .u8 b))])
   = some (.fin (.exit 0) 2 [(1,.pa 0 0),(3,.nm 1)] [(0,some (.var [.i c,.sl .i64 hs,.sl MR az,.sl .i64 is,.sl (.sl .u8) bs])),(1,some (.row 5 .u8 (b++(hs.drop j).flatMap n2)))])
 | 0,j,b,hj,hb=>by
  obtain rfl:j=hs.length:=zf
  rw[List.drop_length,List.flatMap_nil,List.append_nil]
  rw[JB];conv=>lhs;whnf
  refine tq ?_
  with_reducible rfl
 | k+1,j,b,hj,hb=>by
  obtain⟨x,hm,hg⟩:=get_m (l:=hs) (i:=(j:Int)) zf
  have el:=n2_len x
  have ih:=ev_rf_l0 c hs az is bs hl k (j+1) (b++n2 x) zf (by rw[List.length_append];omega)
  rw[lget_nat] at hg
  rw[show((j+1:Nat):Int)=(j:Int)+1 from by omega,List.append_assoc,<-List.flatMap_cons,<-drop_get hg,<-uint_n2] at ih
  rw[<-lget_nat] at hg
  rw[JB];conv=>lhs;whnf
  refine to ?_
  rw[hg]
  refine tq ?_
  rw[ev_r3uint _ _ _ NE]
  refine tq ?_
  exact ih
theorem ev_rf_l1(c:Int)(hs:List Int)(az:List (El MR))(is:List Int)(bs:List (List UInt8))(hl:az.length<=10)(hx:∀ x∈az,x.2.1.length<=1000/\x.2.2.length<=1000):∀(k j:Nat) (b:List UInt8),j+k=az.length->b.length+2006*k<=50000 ->
  Y E0 (.loop 80 1 0 2 [(1,.pa 0 0),(3,.nm 1),(5,.i (j:Int))] [(0,some (.var [.i c,.sl .i64 hs,.sl MR az,.sl .i64 is,.sl (.sl .u8) bs])),(1,some (.row 5 .u8 b))])
   = some (.fin (.exit 2) 2 [(1,.pa 0 0),(3,.nm 1)] [(0,some (.var [.i c,.sl .i64 hs,.sl MR az,.sl .i64 is,.sl (.sl .u8) bs])),(1,some (.row 5 .u8 (b++(az.drop j).flatMap lS)))])
 | 0,j,b,hj,hb=>by
  obtain rfl:j=az.length:=zf
  rw[List.drop_length,List.flatMap_nil,List.append_nil]
  rw[JB];conv=>lhs;whnf
  refine tq ?_
  with_reducible rfl
 | k+1,j,b,hj,hb=>by
  obtain⟨x,hm,hg⟩:=get_m (l:=az) (i:=(j:Int)) zf
  have ho:=hx x hm
  have el:=aut_len x ho
  have ih:=ev_rf_l1 c hs az is bs hl hx k (j+1) (b++lS x) zf (by rw[List.length_append];omega)
  rw[lget_nat] at hg
  rw[show((j+1:Nat):Int)=(j:Int)+1 from by omega,List.append_assoc,<-List.flatMap_cons,<-drop_get hg,<-aut_eq b x ho] at ih
  rw[<-lget_nat] at hg
  rw[JB];conv=>lhs;whnf
  refine to ?_
  rw[hg]
  refine tq ?_
  rw[ev_r3uint _ _ _ NE]
  refine to ?_
  rw[hg]
  refine tq ?_
  rw[ev_r3blob _ _ NE]
  refine to ?_
  rw[hg]
  refine tq ?_
  rw[ev_r3blob _ _ NE]
  refine tq ?_
  exact ih
theorem ev_rf_l2(c:Int)(hs:List Int)(az:List (El MR))(is:List Int)(bs:List (List UInt8))(hl:is.length<=10):∀(k j:Nat) (b:List UInt8),j+k=is.length->b.length+8*k<=50000 ->
  Y E0 (.loop 80 2 0 2 [(1,.pa 0 0),(3,.nm 1),(6,.i (j:Int))] [(0,some (.var [.i c,.sl .i64 hs,.sl MR az,.sl .i64 is,.sl (.sl .u8) bs])),(1,some (.row 5 .u8 b))])
   = some (.fin (.exit 4) 2 [(1,.pa 0 0),(3,.nm 1)] [(0,some (.var [.i c,.sl .i64 hs,.sl MR az,.sl .i64 is,.sl (.sl .u8) bs])),(1,some (.row 5 .u8 (b++(is.drop j).flatMap n8)))])
 | 0,j,b,hj,hb=>by
  obtain rfl:j=is.length:=zf
  rw[List.drop_length,List.flatMap_nil,List.append_nil]
  rw[JB];conv=>lhs;whnf
  refine tq ?_
  with_reducible rfl
 | k+1,j,b,hj,hb=>by
  obtain⟨x,hm,hg⟩:=get_m (l:=is) (i:=(j:Int)) zf
  have el:=n8_len x
  have ih:=ev_rf_l2 c hs az is bs hl k (j+1) (b++n8 x) zf (by rw[List.length_append];omega)
  rw[lget_nat] at hg
  rw[show((j+1:Nat):Int)=(j:Int)+1 from by omega,List.append_assoc,<-List.flatMap_cons,<-drop_get hg,<-uint_n8] at ih
  rw[<-lget_nat] at hg
  rw[JB];conv=>lhs;whnf
  refine to ?_
  rw[hg]
  refine tq ?_
  rw[ev_r3uint _ _ _ NE]
  refine tq ?_
  exact ih
theorem ev_rf_l3(c:Int)(hs:List Int)(az:List (El MR))(is:List Int)(bs:List (List UInt8))(hl:bs.length<=10)(hx:∀ x∈bs,x.length<=2000):∀(k j:Nat) (b:List UInt8),j+k=bs.length->b.length+2002*k<=100000 ->
  Y E0 (.loop 80 3 0 2 [(1,.pa 0 0),(3,.nm 1),(7,.i (j:Int))] [(0,some (.var [.i c,.sl .i64 hs,.sl MR az,.sl .i64 is,.sl (.sl .u8) bs])),(1,some (.row 5 .u8 b))])
   = some (.fin (.exit 6) 1 [(3,.nm 0)] [(0,some (.row 5 .u8 (b++(bs.drop j).flatMap bl)))])
 | 0,j,b,hj,hb=>by
  obtain rfl:j=bs.length:=zf
  rw[List.drop_length,List.flatMap_nil,List.append_nil]
  rw[JB];conv=>lhs;whnf
  refine tq ?_
  with_reducible rfl
 | k+1,j,b,hj,hb=>by
  obtain⟨x,hm,hg⟩:=get_m (l:=bs) (i:=(j:Int)) zf
  have ho:=hx x hm
  have el:=bl_len x
  have ih:=ev_rf_l3 c hs az is bs hl hx k (j+1) (b++bl x) zf (by rw[List.length_append];omega)
  rw[lget_nat] at hg
  rw[show((j+1:Nat):Int)=(j:Int)+1 from by omega,List.append_assoc,<-List.flatMap_cons,<-drop_get hg,<-blob_bl (show x.length<=65535 by omega)] at ih
  rw[<-lget_nat] at hg
  rw[JB];conv=>lhs;whnf
  refine to ?_
  rw[hg]
  refine tq ?_
  rw[ev_r3blob _ _ NE]
  refine tq ?_
  exact ih
theorem rf_eq(L:Int)(hL:L=5+((aN c hs az is bs).length:Int))(hb:L<=65535):BH (BH ([UInt8.ofNat 83,UInt8.ofNat 87,UInt8.ofNat 0,UInt8.ofNat 0,UInt8.ofInt c]++List.flatMap n2 hs++List.flatMap lS az++List.flatMap n8 is++[UInt8.ofInt (bs.length:Int)]++List.flatMap bl bs) 2 (D5 (Bc L (UInt64.ofNat 8).toNat))) 3 (D5 L)=lT c hs az is bs:=by
 obtain⟨u,v,huv⟩:=len2_two (5+(aN c hs az is bs).length)
 have hv:=len2_val zf huv
 have hu':=u.toNat_lt
 have hv':=v.toNat_lt
 have e1:D5 (Bc L (UInt64.ofNat 8).toNat)=u:=by
  rw[iu8_eq,show(UInt64.ofNat 8).toNat=8 from rfl,ishr_eq zf]
  apply UInt8.toNat_inj.1
  rw[u8_ofInt zf];omega
 have e2:D5 L=v:=by
  rw[iu8_eq]
  apply UInt8.toNat_inj.1
  rw[UInt8.ofInt,UInt8.toNat_ofNat'];omega
 rw[e1,e2,lT,show n2 (5+(aN c hs az is bs).length:Int)=jS (5+(aN c hs az is bs).length) from rfl,huv,aN,UJ,UJ]
 simp only[List.append_assoc]
 rfl
theorem ev_rform(hl:hs.length<=10)(hal:az.length<=10)(ham:∀ x∈az,x.2.1.length<=1000/\x.2.2.length<=1000)(hil:is.length<=10)(hbl:bs.length<=10)(hbm:∀ x∈bs,x.length<=2000):Y E0 (.call 80 [rq c hs az is bs] [])=some (.ret (.sl .u8 (lT c hs az is bs)) []):=by
 have hH:(hs.flatMap n2).length<=20:=Nat.le_trans (fm_len (m:=2) fun x _=>by rw[n2_len];decide) zf
 have hA:(az.flatMap lS).length<=20060:=Nat.le_trans (fm_len (m:=2006) fun x hx=>aut_len x (ham x hx)) zf
 have hI:(is.flatMap n8).length<=80:=Nat.le_trans (fm_len (m:=8) fun x _=>by rw[n8_len];decide) zf
 have hB:(bs.flatMap bl).length<=20020:=Nat.le_trans (fm_len (m:=2002) fun x hx=>by have:=hbm x hx;rw[bl_len];omega) zf
 have l0:=ev_rf_l0 c hs az is bs hl hs.length 0 [UInt8.ofNat 83,UInt8.ofNat 87,UInt8.ofNat 0,UInt8.ofNat 0,D5 c] zf zx
 have l1:=ev_rf_l1 c hs az is bs hal ham az.length 0 ([UInt8.ofNat 83,UInt8.ofNat 87,UInt8.ofNat 0,UInt8.ofNat 0,D5 c]++hs.flatMap n2) zf (by simp only[List.length_append,List.length_cons,List.length_nil];omega)
 have l2:=ev_rf_l2 c hs az is bs hil is.length 0 ([UInt8.ofNat 83,UInt8.ofNat 87,UInt8.ofNat 0,UInt8.ofNat 0,D5 c]++hs.flatMap n2++az.flatMap lS) zf (by simp only[List.length_append,List.length_cons,List.length_nil];omega)
 have l3:=ev_rf_l3 c hs az is bs hbl hbm bs.length 0 ([UInt8.ofNat 83,UInt8.ofNat 87,UInt8.ofNat 0,UInt8.ofNat 0,D5 c]++hs.flatMap n2++az.flatMap lS++is.flatMap n8++[UInt8.ofInt (bs.length:Int)]) zf (by simp only[List.length_append,List.length_cons,List.length_nil];omega)
 rw[show((0:Nat):Int)=0 from rfl,List.drop_zero] at l0 l1 l2 l3
 refine tq ?_
 simp only[Nat.reduceAdd];rw[l0]
 refine tq ?_
 rw[l1]
 refine tq ?_
 rw[l2]
 refine tq ?_
 simp only[QP,UH,iu8_eq] at l3 ⊢;rw[l3];clear l0 l1 l2 l3
 conv=>lhs;whnf
 rw[bY (by(simp only[n8_len,n4_len,n2_len,bl_len,Gu,OO,Xa,ZO,LL] at *<;>omega))]
 conv=>lhs;whnf
 rw[lget_i (by(simp only[n8_len,n4_len,n2_len,bl_len,Gu,OO,Xa,ZO,LL] at *<;>omega))]
 conv=>lhs;whnf
 rw[bY (by(simp only[n8_len,n4_len,n2_len,bl_len,Gu,OO,Xa,ZO,LL] at *<;>omega))]
 conv=>lhs;whnf
 rw[lget_i (by(simp only[n8_len,n4_len,n2_len,bl_len,Gu,OO,Xa,ZO,LL] at *<;>omega))]
 conv=>lhs;whnf
 (rw[rf_eq c hs az is bs _ (by rw[QP,aN];simp only[List.length_append,List.length_cons,List.length_nil];omega) (by rw[QP];simp only[List.length_append,List.length_cons,List.length_nil];omega)])
theorem ev_rfits(n:Int):Y E0 (.call 126 [.i n,.i n] [])=some (.ret (.b true) []):=by
 refine tq ?_
 with_reducible rfl
theorem ev_rnum(h:Int)(h0:0<=h/\h<=65535):Y E0 (.call 127 [.i h] [])=some (.ret (.b true) []):=by
 refine tq ?_
 with_reducible rfl
theorem ev_rl_l0(c:Int)(hs:List Int)(az:List (El MR))(is:List Int)(bs:List (List UInt8))(hl:az.length<=10)(hx:∀ x∈az,x.2.1.length<=128/\x.2.2.length<=128):∀(k j:Nat),j+k=az.length ->
  Y E0 (.loop 128 0 0 1 [(1,.pa 0 0),(3,.i (j:Int))] [(0,some (.var [.i c,.sl .i64 hs,.sl MR az,.sl .i64 is,.sl (.sl .u8) bs]))])=some (.fin (.exit 0) 1 [(1,.pa 0 0)] [(0,some (.var [.i c,.sl .i64 hs,.sl MR az,.sl .i64 is,.sl (.sl .u8) bs]))])
 | 0,j,hj=>by
  obtain rfl:j=az.length:=zf
  rw[JB];conv=>lhs;whnf
  refine tq ?_
  with_reducible rfl
 | k+1,j,hj=>by
  obtain⟨x,hm,hg⟩:=get_m (l:=az) (i:=(j:Int)) zf
  have ho:=hx x hm
  have ih:=ev_rl_l0 c hs az is bs hl hx k (j+1) zf
  rw[show((j+1:Nat):Int)=(j:Int)+1 from by omega] at ih
  rw[JB];conv=>lhs;whnf
  refine to ?_
  rw[hg]
  refine to ?_
  rw[hg]
  refine tq ?_
  exact ih
theorem ev_rl_l1(c:Int)(hs:List Int)(az:List (El MR))(is:List Int)(bs:List (List UInt8))(hl:bs.length<=10)(hx:∀ x∈bs,x.length<=1024):∀(k j:Nat),j+k=bs.length ->
  Y E0 (.loop 128 1 0 1 [(1,.pa 0 0),(4,.i (j:Int))] [(0,some (.var [.i c,.sl .i64 hs,.sl MR az,.sl .i64 is,.sl (.sl .u8) bs]))])=some (.fin (.exit 2) 1 [(1,.pa 0 0)] [(0,some (.var [.i c,.sl .i64 hs,.sl MR az,.sl .i64 is,.sl (.sl .u8) bs]))])
 | 0,j,hj=>by
  obtain rfl:j=bs.length:=zf
  rw[JB];conv=>lhs;whnf
  refine tq ?_
  with_reducible rfl
 | k+1,j,hj=>by
  obtain⟨x,hm,hg⟩:=get_m (l:=bs) (i:=(j:Int)) zf
  have ho:=hx x hm
  have ih:=ev_rl_l1 c hs az is bs hl hx k (j+1) zf
  rw[show((j+1:Nat):Int)=(j:Int)+1 from by omega] at ih
  rw[JB];conv=>lhs;whnf
  refine to ?_
  rw[hg]
  refine tq ?_
  exact ih
theorem ev_rlong(hl:hs.length<=10)(hal:az.length<=10)(ham:∀ x∈az,x.2.1.length<=128/\x.2.2.length<=128)(hil:is.length<=10)(hbl:bs.length<=10)(hbm:∀ x∈bs,x.length<=1024)(hlen:(lT c hs az is bs).length<=2048):Y E0 (.call 128 [rq c hs az is bs] [])=some (.ret (.b false) []):=by
 have l0:=ev_rl_l0 c hs az is bs hal ham az.length 0 zf
 have l1:=ev_rl_l1 c hs az is bs hbl hbm bs.length 0 zf
 have hf:=ev_rform c hs az is bs hl hal (fun x hx=>by have:=ham x hx;omega) hil hbl (fun x hx=>by have:=hbm x hx;omega)
 rw[show((0:Nat):Int)=0 from rfl] at l0 l1
 refine tq ?_
 rw[l0]
 refine tq ?_
 rw[l1]
 refine tq ?_
 rw[hf]
 conv=>lhs;whnf
 (congr 3;simp only[bu,bz,ilt_eq,ile_eq,UK,bi,QP];first|rfl|(rw[decide_eq_decide];omega)|(simp;omega))
theorem ev_rc_l0(c:Int)(hs:List Int)(az:List (El MR))(is:List Int)(bs:List (List UInt8))(hl:hs.length<=10)(hx:∀ x∈hs,0<=x/\x<=65535):∀(k j:Nat),j+k=hs.length ->
  Y E0 (.loop 79 0 0 1 [(1,.pa 0 0),(5,.i (j:Int))] [(0,some (.var [.i c,.sl .i64 hs,.sl MR az,.sl .i64 is,.sl (.sl .u8) bs]))])=some (.fin (.exit 0) 1 [(1,.pa 0 0)] [(0,some (.var [.i c,.sl .i64 hs,.sl MR az,.sl .i64 is,.sl (.sl .u8) bs]))])
 | 0,j,hj=>by
  obtain rfl:j=hs.length:=zf
  rw[JB];conv=>lhs;whnf
  refine tq ?_
  with_reducible rfl
 | k+1,j,hj=>by
  obtain⟨x,hm,hg⟩:=get_m (l:=hs) (i:=(j:Int)) zf
  have ho:=hx x hm
  have hn:=ev_rnum x ho
  have ih:=ev_rc_l0 c hs az is bs hl hx k (j+1) zf
  rw[show((j+1:Nat):Int)=(j:Int)+1 from by omega] at ih
  rw[JB];conv=>lhs;whnf
  refine to ?_
  rw[hg]
  refine tq ?_
  rw[hn]
  refine tq ?_
  exact ih
theorem ev_rc_l1(c:Int)(hs:List Int)(az:List (El MR))(is:List Int)(bs:List (List UInt8))(hl:az.length<=10)(hx:∀ x∈az,(0:Int)<=x.1/\(x.1:Int)<=65535):∀(k j:Nat),j+k=az.length ->
  Y E0 (.loop 79 1 0 1 [(1,.pa 0 0),(6,.i (j:Int))] [(0,some (.var [.i c,.sl .i64 hs,.sl MR az,.sl .i64 is,.sl (.sl .u8) bs]))])=some (.fin (.exit 2) 1 [(1,.pa 0 0)] [(0,some (.var [.i c,.sl .i64 hs,.sl MR az,.sl .i64 is,.sl (.sl .u8) bs]))])
 | 0,j,hj=>by
  obtain rfl:j=az.length:=zf
  rw[JB];conv=>lhs;whnf
  refine tq ?_
  with_reducible rfl
 | k+1,j,hj=>by
  obtain⟨x,hm,hg⟩:=get_m (l:=az) (i:=(j:Int)) zf
  have ho:=hx x hm
  have hn:=ev_rnum x.1 ho
  have ih:=ev_rc_l1 c hs az is bs hl hx k (j+1) zf
  rw[show((j+1:Nat):Int)=(j:Int)+1 from by omega] at ih
  rw[JB];conv=>lhs;whnf
  refine to ?_
  rw[hg]
  refine tq ?_
  rw[hn]
  refine tq ?_
  exact ih
theorem ev_rc_l2(c:Int)(hs:List Int)(az:List (El MR))(is:List Int)(bs:List (List UInt8))(hl:is.length<=10)(hx:∀ x∈is,0<=x/\x<=1099511627776):∀(k j:Nat),j+k=is.length ->
  Y E0 (.loop 79 2 0 1 [(1,.pa 0 0),(7,.i (j:Int))] [(0,some (.var [.i c,.sl .i64 hs,.sl MR az,.sl .i64 is,.sl (.sl .u8) bs]))])=some (.fin (.exit 4) 1 [(1,.pa 0 0)] [(0,some (.var [.i c,.sl .i64 hs,.sl MR az,.sl .i64 is,.sl (.sl .u8) bs]))])
 | 0,j,hj=>by
  obtain rfl:j=is.length:=zf
  rw[JB];conv=>lhs;whnf
  refine tq ?_
  with_reducible rfl
 | k+1,j,hj=>by
  obtain⟨x,hm,hg⟩:=get_m (l:=is) (i:=(j:Int)) zf
  have ho:=hx x hm
  have ih:=ev_rc_l2 c hs az is bs hl hx k (j+1) zf
  rw[show((j+1:Nat):Int)=(j:Int)+1 from by omega] at ih
  rw[JB];conv=>lhs;whnf
  refine to ?_
  rw[hg]
  refine to ?_
  rw[hg]
  refine tq ?_
  exact ih
theorem ev_rchk(nb:Int)(hs:List Int)(az:List (El MR))(is:List Int)(bs:List (List UInt8))(hsh:Y E0 (.call 125 [.i c] [])=some (.ret (.tup [.agg [.i (hs.length:Int),.i (az.length:Int),.i (is.length:Int),.i nb],.b true]) []))(hct:Y E0 (.call 126 [.i nb,.i (bs.length:Int)] [])=some (.ret (.b true) []))(hl:hs.length<=10)(hal:az.length<=10)(hil:is.length<=10)(hbl:bs.length<=10)(hhm:∀ x∈hs,0<=x/\x<=65535)(ham:∀ x∈az,((0:Int)<=x.1/\(x.1:Int)<=65535)/\x.2.1.length<=128/\x.2.2.length<=128)(him:∀ x∈is,0<=x/\x<=1099511627776)(hbm:∀ x∈bs,x.length<=1024)(hlen:(lT c hs az is bs).length<=2048):Y E0 (.call 79 [rq c hs az is bs] [])=some (.ret (.i 0) []):=by
 have l0:=ev_rc_l0 c hs az is bs hl hhm hs.length 0 zf
 have l1:=ev_rc_l1 c hs az is bs hal (fun x hx=>(ham x hx).1) az.length 0 zf
 have l2:=ev_rc_l2 c hs az is bs hil him is.length 0 zf
 have hf:=ev_rlong c hs az is bs hl hal (fun x hx=>(ham x hx).2) hil hbl hbm hlen
 rw[show((0:Nat):Int)=0 from rfl] at l0 l1 l2
 refine tq ?_
 rw[hsh]
 refine tq ?_
 rw[QP,hct]
 refine tq ?_
 rw[l0]
 refine tq ?_
 rw[l1]
 refine tq ?_
 rw[l2]
 refine tq ?_
 rw[hf]
 exact tq rfl
theorem ev_renc(nb:Int)(hs:List Int)(az:List (El MR))(is:List Int)(bs:List (List UInt8))(hsh:Y E0 (.call 125 [.i c] [])=some (.ret (.tup [.agg [.i (hs.length:Int),.i (az.length:Int),.i (is.length:Int),.i nb],.b true]) []))(hct:Y E0 (.call 126 [.i nb,.i (bs.length:Int)] [])=some (.ret (.b true) []))(hl:hs.length<=10)(hal:az.length<=10)(hil:is.length<=10)(hbl:bs.length<=10)(hhm:∀ x∈hs,0<=x/\x<=65535)(ham:∀ x∈az,((0:Int)<=x.1/\(x.1:Int)<=65535)/\x.2.1.length<=128/\x.2.2.length<=128)(him:∀ x∈is,0<=x/\x<=1099511627776)(hbm:∀ x∈bs,x.length<=1024)(hlen:(lT c hs az is bs).length<=2048):Y E0 (.call 38 [rq c hs az is bs] [])=some (.ret (.tup [.sl .u8 (lT c hs az is bs),.i 0]) []):=by
 have hk:=ev_rchk c nb hs az is bs hsh hct hl hal hil hbl hhm ham him hbm hlen
 have hf:=ev_rform c hs az is bs hl hal (fun x hx=>by have:=(ham x hx).2;omega) hil hbl (fun x hx=>by have:=hbm x hx;omega)
 refine tq ?_
 rw[hk]
 refine tq ?_
 rw[hf]
 exact tq rfl
end
end Go.Proofs.YtanagnimhaemgaaGreatDoor
