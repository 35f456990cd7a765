/-
  Own texts, laid together for this claim: contracts of functions of the program and its references, used by the statements of this seat.
-/
import Derived.Test.YtanagnimhaemgaaGreatDoorKtac
import Derived.Test.YtanagnimhaemgaaGreatDoorKtad
import Derived.Test.YtanagnimhaemgaaGreatDoorKtaf
import Derived.Test.YtanagnimhaemgaaGreatDoorKtaj
import Derived.Test.YtanagnimhaemgaaGreatDoorKtal
import Derived.Test.YtanagnimhaemgaaGreatDoorKtan
import Derived.Test.YtanagnimhaemgaaGreatDoorKtas
import Derived.Test.YtanagnimhaemgaaGreatDoorKtau
set_option linter.all false
set_option maxHeartbeats 40000000
set_option maxRecDepth 100000
namespace Go.Proofs.YtanagnimhaemgaaGreatDoor
open Go Go.Ax Go.Eng
variable (c:Int)(hs:List Int)(az:List (El AL))(is:List Int)(bs:List (List UInt8))
section
attribute [local irreducible] Bl CS CU CJ Bh Ak CV Du EN E5 EH Be BN CE Bz and' CG CO BC Ag Ar BF BG AY Aa AP AX CW Dv CX DT C9 BJ BD BA BB Au AQ Az Ac Aw Ah CY BL Bi BR BI CB CZ CP fits Cb CQ A8 AA AZ
theorem A0z:Y E0 (.call 125 [.i 1] [])=some (.ret (.tup [.agg [.i 0,.i 0,.i 1,.i 0],.b true]) []):=by
 refine tq ?_;rw[Jg];refine tq ?_;rfl
theorem A10:Y E0 (.call 125 [.i 9] [])=some (.ret (.tup [.agg [.i 1,.i 1,.i 3,.i 3],.b true]) []):=by
 refine tq ?_;rw[Jg];refine tq ?_;rfl
theorem vC:Y E0 (.call 125 [.i 13] [])=some (.ret (.tup [.agg [.i 1,.i 1,.i 0,.i 0],.b true]) []):=by
 refine tq ?_;rw[Jg];refine tq ?_;rfl
theorem vF:Y E0 (.call 125 [.i 16] [])=some (.ret (.tup [.agg [.i 0,.i 0,.i 1,.i 0],.b true]) []):=by
 refine tq ?_;rw[Jg];refine tq ?_;rfl
theorem vG:Y E0 (.call 125 [.i 17] [])=some (.ret (.tup [.agg [.i 0,.i 0,.i 6,.i (-1)],.b true]) []):=by
 refine tq ?_;rw[Jg];refine tq ?_;rfl
theorem iO(c:Int)(hs:List Int)(az:List (El AL))(is:List Int)(bs:List (List UInt8))(hl:hs.length<=10):∀(k j:Nat) (b:List UInt8),j+k=hs.length->b.length+2*k<=1000 ->
  Y E0 (.loop 80 0 0 2 [(1,.pa 0 0),(3,.nm 1),(4,.i (j:Int))] [(0,some (.var [.i c,.sl .i64 hs,.sl AL az,.sl .i64 is,.sl (.sl .u8) bs])),(1,some (.row 5 .u8 b))])
   = some (.fin (.exit 0) 2 [(1,.pa 0 0),(3,.nm 1)] [(0,some (.var [.i c,.sl .i64 hs,.sl AL az,.sl .i64 is,.sl (.sl .u8) bs])),(1,some (.row 5 .u8 (b++(hs.drop j).flatMap n2)))])
 | 0,j,b,hj,hb=>by
  obtain rfl:j=hs.length:=zaa
  rw[List.drop_length,List.flatMap_nil,List.append_nil]
  rw[AU];conv=>lhs;whnf
  refine tq ?_
  with_reducible rfl
 | k+1,j,b,hj,hb=>by
  obtain⟨x,hm,hg⟩:=Gp (l:=hs) (i:=(j:Int)) zaa
  have el:=DK x
  have ih:=iO c hs az is bs hl k (j+1) (b++n2 x) zaa zaA
  rw[D5] at hg
  rw[show((j+1:Nat):Int)=(j:Int)+1 from by omega,List.append_assoc,<-List.flatMap_cons,<-H6 hg,<-SL] at ih
  rw[<-D5] at hg
  rw[AU];conv=>lhs;whnf
  refine to ?_
  rw[hg]
  refine tq ?_
  rw[Gj _ _ _ Am]
  refine tq ?_
  exact ih
theorem iP(c:Int)(hs:List Int)(az:List (El AL))(is:List Int)(bs:List (List UInt8))(hl:az.length<=10)(hx:∀ x∈az,x.2.1.length<=1000/\x.2.2.length<=1000):∀(k j:Nat) (b:List UInt8),j+k=az.length->b.length+2006*k<=50000 ->
  Y E0 (.loop 80 1 0 2 [(1,.pa 0 0),(3,.nm 1),(5,.i (j:Int))] [(0,some (.var [.i c,.sl .i64 hs,.sl AL az,.sl .i64 is,.sl (.sl .u8) bs])),(1,some (.row 5 .u8 b))])
   = some (.fin (.exit 2) 2 [(1,.pa 0 0),(3,.nm 1)] [(0,some (.var [.i c,.sl .i64 hs,.sl AL az,.sl .i64 is,.sl (.sl .u8) bs])),(1,some (.row 5 .u8 (b++(az.drop j).flatMap Ll)))])
 | 0,j,b,hj,hb=>by
  obtain rfl:j=az.length:=zaa
  rw[List.drop_length,List.flatMap_nil,List.append_nil]
  rw[AU];conv=>lhs;whnf
  refine tq ?_
  with_reducible rfl
 | k+1,j,b,hj,hb=>by
  obtain⟨x,hm,hg⟩:=Gp (l:=az) (i:=(j:Int)) zaa
  have ho:=hx x hm
  have el:=VH x ho
  have ih:=iP c hs az is bs hl hx k (j+1) (b++Ll x) zaa zaA
  rw[D5] at hg
  rw[show((j+1:Nat):Int)=(j:Int)+1 from by omega,List.append_assoc,<-List.flatMap_cons,<-H6 hg,<-A0h b x ho] at ih
  rw[<-D5] at hg
  rw[AU];conv=>lhs;whnf
  refine to ?_
  rw[hg]
  refine tq ?_
  rw[Gj _ _ _ Am]
  refine to ?_
  rw[hg]
  refine tq ?_
  rw[UB _ _ Am]
  refine to ?_
  rw[hg]
  refine tq ?_
  rw[UB _ _ Am]
  refine tq ?_
  exact ih
theorem iQ(c:Int)(hs:List Int)(az:List (El AL))(is:List Int)(bs:List (List UInt8))(hl:is.length<=10):∀(k j:Nat) (b:List UInt8),j+k=is.length->b.length+8*k<=50000 ->
  Y E0 (.loop 80 2 0 2 [(1,.pa 0 0),(3,.nm 1),(6,.i (j:Int))] [(0,some (.var [.i c,.sl .i64 hs,.sl AL az,.sl .i64 is,.sl (.sl .u8) bs])),(1,some (.row 5 .u8 b))])
   = some (.fin (.exit 4) 2 [(1,.pa 0 0),(3,.nm 1)] [(0,some (.var [.i c,.sl .i64 hs,.sl AL az,.sl .i64 is,.sl (.sl .u8) bs])),(1,some (.row 5 .u8 (b++(is.drop j).flatMap n8)))])
 | 0,j,b,hj,hb=>by
  obtain rfl:j=is.length:=zaa
  rw[List.drop_length,List.flatMap_nil,List.append_nil]
  rw[AU];conv=>lhs;whnf
  refine tq ?_
  with_reducible rfl
 | k+1,j,b,hj,hb=>by
  obtain⟨x,hm,hg⟩:=Gp (l:=is) (i:=(j:Int)) zaa
  have el:=Bo x
  have ih:=iQ c hs az is bs hl k (j+1) (b++n8 x) zaa zaA
  rw[D5] at hg
  rw[show((j+1:Nat):Int)=(j:Int)+1 from by omega,List.append_assoc,<-List.flatMap_cons,<-H6 hg,<-Kv] at ih
  rw[<-D5] at hg
  rw[AU];conv=>lhs;whnf
  refine to ?_
  rw[hg]
  refine tq ?_
  rw[Gj _ _ _ Am]
  refine tq ?_
  exact ih
theorem iR(c:Int)(hs:List Int)(az:List (El AL))(is:List Int)(bs:List (List UInt8))(hl:bs.length<=10)(hx:∀ x∈bs,x.length<=2000):∀(k j:Nat) (b:List UInt8),j+k=bs.length->b.length+2002*k<=100000 ->
  Y E0 (.loop 80 3 0 2 [(1,.pa 0 0),(3,.nm 1),(7,.i (j:Int))] [(0,some (.var [.i c,.sl .i64 hs,.sl AL az,.sl .i64 is,.sl (.sl .u8) bs])),(1,some (.row 5 .u8 b))])
   = some (.fin (.exit 6) 1 [(3,.nm 0)] [(0,some (.row 5 .u8 (b++(bs.drop j).flatMap bl)))])
 | 0,j,b,hj,hb=>by
  obtain rfl:j=bs.length:=zaa
  rw[List.drop_length,List.flatMap_nil,List.append_nil]
  rw[AU];conv=>lhs;whnf
  refine tq ?_
  with_reducible rfl
 | k+1,j,b,hj,hb=>by
  obtain⟨x,hm,hg⟩:=Gp (l:=bs) (i:=(j:Int)) zaa
  have ho:=hx x hm
  have el:=Cc x
  have ih:=iR c hs az is bs hl hx k (j+1) (b++bl x) zaa zaA
  rw[D5] at hg
  rw[show((j+1:Nat):Int)=(j:Int)+1 from by omega,List.append_assoc,<-List.flatMap_cons,<-H6 hg,<-Fg (show x.length<=65535 by omega)] at ih
  rw[<-D5] at hg
  rw[AU];conv=>lhs;whnf
  refine to ?_
  rw[hg]
  refine tq ?_
  rw[UB _ _ Am]
  refine tq ?_
  exact ih
theorem A6Y(L:Int)(hL:L=5+((IY c hs az is bs).length:Int))(hb:L<=65535):BL (BL ([UInt8.ofNat 83,UInt8.ofNat 87,UInt8.ofNat 0,UInt8.ofNat 0,UInt8.ofInt c]++List.flatMap n2 hs++List.flatMap Ll az++List.flatMap n8 is++[UInt8.ofInt (bs.length:Int)]++List.flatMap bl bs) 2 (DT (BN L (UInt64.ofNat 8).toNat))) 3 (DT L)=Gn c hs az is bs:=by
 obtain⟨u,v,huv⟩:=WJ (5+(IY c hs az is bs).length)
 have hv:=WL zaa huv
 have hu':=u.toNat_lt
 have hv':=v.toNat_lt
 have e1:DT (BN L (UInt64.ofNat 8).toNat)=u:=by
  rw[EM,show(UInt64.ofNat 8).toNat=8 from rfl,J7 zaa]
  apply UInt8.toNat_inj.1
  rw[dX zaa];omega
 have e2:DT L=v:=by
  rw[EM]
  apply UInt8.toNat_inj.1
  rw[UInt8.ofInt,UInt8.toNat_ofNat'];omega
 rw[e1,e2,Gn,show n2 (5+(IY c hs az is bs).length:Int)=XF (5+(IY c hs az is bs).length) from rfl,huv,IY,EU,EU]
 simp only[List.append_assoc]
 rfl
theorem iT(hl:hs.length<=10)(hal:az.length<=10)(ham:∀ x∈az,x.2.1.length<=1000/\x.2.2.length<=1000)(hil:is.length<=10)(hbl:bs.length<=10)(hbm:∀ x∈bs,x.length<=2000):Y E0 (.call 80 [rq c hs az is bs] [])=some (.ret (.sl .u8 (Gn c hs az is bs)) []):=by
 have hH:(hs.flatMap n2).length<=20:=Nat.le_trans (Ht (m:=2) fun x _=>by rw[DK];decide) zaa
 have hA:(az.flatMap Ll).length<=20060:=Nat.le_trans (Ht (m:=2006) fun x hx=>VH x (ham x hx)) zaa
 have hI:(is.flatMap n8).length<=80:=Nat.le_trans (Ht (m:=8) fun x _=>by rw[Bo];decide) zaa
 have hB:(bs.flatMap bl).length<=20020:=Nat.le_trans (Ht (m:=2002) fun x hx=>by have:=hbm x hx;rw[Cc];omega) zaa
 have l0:=iO c hs az is bs hl hs.length 0 [UInt8.ofNat 83,UInt8.ofNat 87,UInt8.ofNat 0,UInt8.ofNat 0,DT c] zaa zar
 have l1:=iP c hs az is bs hal ham az.length 0 ([UInt8.ofNat 83,UInt8.ofNat 87,UInt8.ofNat 0,UInt8.ofNat 0,DT c]++hs.flatMap n2) zaa zat
 have l2:=iQ c hs az is bs hil is.length 0 ([UInt8.ofNat 83,UInt8.ofNat 87,UInt8.ofNat 0,UInt8.ofNat 0,DT c]++hs.flatMap n2++az.flatMap Ll) zaa zat
 have l3:=iR c hs az is bs hbl hbm bs.length 0 ([UInt8.ofNat 83,UInt8.ofNat 87,UInt8.ofNat 0,UInt8.ofNat 0,DT c]++hs.flatMap n2++az.flatMap Ll++is.flatMap n8++[UInt8.ofInt (bs.length:Int)]) zaa zat
 rw[show((0:Nat):Int)=0 from rfl,List.drop_zero] at l0 l1 l2 l3
 refine tq ?_
 simp only[Nat.reduceAdd];rw[l0]
 refine tq ?_
 rw[l1]
 refine tq ?_
 rw[l2]
 refine tq ?_
 simp only[AC,Ap,EM] at l3 ⊢;rw[l3];clear l0 l1 l2 l3
 conv=>lhs;whnf
 rw[Jk zas]
 conv=>lhs;whnf
 rw[DZ zas]
 conv=>lhs;whnf
 rw[Jk zas]
 conv=>lhs;whnf
 rw[DZ zas]
 conv=>lhs;whnf
 (rw[A6Y c hs az is bs _ (by rw[AC,IY];simp only[List.length_append,List.length_cons,List.length_nil];omega) (by rw[AC];simp only[List.length_append,List.length_cons,List.length_nil];omega)])
theorem Sm(n:Int):Y E0 (.call 126 [.i n,.i n] [])=some (.ret (.b true) []):=by
 refine tq ?_
 with_reducible rfl
theorem qQ(h:Int)(h0:0<=h/\h<=65535):Y E0 (.call 127 [.i h] [])=some (.ret (.b true) []):=by
 refine tq ?_
 with_reducible rfl
theorem iU(c:Int)(hs:List Int)(az:List (El AL))(is:List Int)(bs:List (List UInt8))(hl:az.length<=10)(hx:∀ x∈az,x.2.1.length<=128/\x.2.2.length<=128):∀(k j:Nat),j+k=az.length ->
  Y E0 (.loop 128 0 0 1 [(1,.pa 0 0),(3,.i (j:Int))] [(0,some (.var [.i c,.sl .i64 hs,.sl AL az,.sl .i64 is,.sl (.sl .u8) bs]))])=some (.fin (.exit 0) 1 [(1,.pa 0 0)] [(0,some (.var [.i c,.sl .i64 hs,.sl AL az,.sl .i64 is,.sl (.sl .u8) bs]))])
 | 0,j,hj=>by
  obtain rfl:j=az.length:=zaa
  rw[AU];conv=>lhs;whnf
  refine tq ?_
  with_reducible rfl
 | k+1,j,hj=>by
  obtain⟨x,hm,hg⟩:=Gp (l:=az) (i:=(j:Int)) zaa
  have ho:=hx x hm
  have ih:=iU c hs az is bs hl hx k (j+1) zaa
  rw[show((j+1:Nat):Int)=(j:Int)+1 from by omega] at ih
  rw[AU];conv=>lhs;whnf
  refine to ?_
  rw[hg]
  refine to ?_
  rw[hg]
  refine tq ?_
  exact ih
theorem iV(c:Int)(hs:List Int)(az:List (El AL))(is:List Int)(bs:List (List UInt8))(hl:bs.length<=10)(hx:∀ x∈bs,x.length<=1024):∀(k j:Nat),j+k=bs.length ->
  Y E0 (.loop 128 1 0 1 [(1,.pa 0 0),(4,.i (j:Int))] [(0,some (.var [.i c,.sl .i64 hs,.sl AL az,.sl .i64 is,.sl (.sl .u8) bs]))])=some (.fin (.exit 2) 1 [(1,.pa 0 0)] [(0,some (.var [.i c,.sl .i64 hs,.sl AL az,.sl .i64 is,.sl (.sl .u8) bs]))])
 | 0,j,hj=>by
  obtain rfl:j=bs.length:=zaa
  rw[AU];conv=>lhs;whnf
  refine tq ?_
  with_reducible rfl
 | k+1,j,hj=>by
  obtain⟨x,hm,hg⟩:=Gp (l:=bs) (i:=(j:Int)) zaa
  have ho:=hx x hm
  have ih:=iV c hs az is bs hl hx k (j+1) zaa
  rw[show((j+1:Nat):Int)=(j:Int)+1 from by omega] at ih
  rw[AU];conv=>lhs;whnf
  refine to ?_
  rw[hg]
  refine tq ?_
  exact ih
theorem A11(hl:hs.length<=10)(hal:az.length<=10)(ham:∀ x∈az,x.2.1.length<=128/\x.2.2.length<=128)(hil:is.length<=10)(hbl:bs.length<=10)(hbm:∀ x∈bs,x.length<=1024)(hlen:(Gn c hs az is bs).length<=2048):Y E0 (.call 128 [rq c hs az is bs] [])=some (.ret (.b false) []):=by
 have l0:=iU c hs az is bs hal ham az.length 0 zaa
 have l1:=iV c hs az is bs hbl hbm bs.length 0 zaa
 have hf:=iT c hs az is bs hl hal (fun x hx=>by have:=ham x hx;omega) hil hbl (fun x hx=>by have:=hbm x hx;omega)
 rw[show((0:Nat):Int)=0 from rfl] at l0 l1
 refine tq ?_
 rw[l0]
 refine tq ?_
 rw[l1]
 refine tq ?_
 rw[hf]
 conv=>lhs;whnf
 (congr 3;simp only[Hq,JA,Io,JB,DJ,GZ,AC];first|rfl|(rw[decide_eq_decide];omega)|(simp;omega))
theorem iW(c:Int)(hs:List Int)(az:List (El AL))(is:List Int)(bs:List (List UInt8))(hl:hs.length<=10)(hx:∀ x∈hs,0<=x/\x<=65535):∀(k j:Nat),j+k=hs.length ->
  Y E0 (.loop 79 0 0 1 [(1,.pa 0 0),(5,.i (j:Int))] [(0,some (.var [.i c,.sl .i64 hs,.sl AL az,.sl .i64 is,.sl (.sl .u8) bs]))])=some (.fin (.exit 0) 1 [(1,.pa 0 0)] [(0,some (.var [.i c,.sl .i64 hs,.sl AL az,.sl .i64 is,.sl (.sl .u8) bs]))])
 | 0,j,hj=>by
  obtain rfl:j=hs.length:=zaa
  rw[AU];conv=>lhs;whnf
  refine tq ?_
  with_reducible rfl
 | k+1,j,hj=>by
  obtain⟨x,hm,hg⟩:=Gp (l:=hs) (i:=(j:Int)) zaa
  have ho:=hx x hm
  have hn:=qQ x ho
  have ih:=iW c hs az is bs hl hx k (j+1) zaa
  rw[show((j+1:Nat):Int)=(j:Int)+1 from by omega] at ih
  rw[AU];conv=>lhs;whnf
  refine to ?_
  rw[hg]
  refine tq ?_
  rw[hn]
  refine tq ?_
  exact ih
theorem iY(c:Int)(hs:List Int)(az:List (El AL))(is:List Int)(bs:List (List UInt8))(hl:az.length<=10)(hx:∀ x∈az,(0:Int)<=x.1/\(x.1:Int)<=65535):∀(k j:Nat),j+k=az.length ->
  Y E0 (.loop 79 1 0 1 [(1,.pa 0 0),(6,.i (j:Int))] [(0,some (.var [.i c,.sl .i64 hs,.sl AL az,.sl .i64 is,.sl (.sl .u8) bs]))])=some (.fin (.exit 2) 1 [(1,.pa 0 0)] [(0,some (.var [.i c,.sl .i64 hs,.sl AL az,.sl .i64 is,.sl (.sl .u8) bs]))])
 | 0,j,hj=>by
  obtain rfl:j=az.length:=zaa
  rw[AU];conv=>lhs;whnf
  refine tq ?_
  with_reducible rfl
 | k+1,j,hj=>by
  obtain⟨x,hm,hg⟩:=Gp (l:=az) (i:=(j:Int)) zaa
  have ho:=hx x hm
  have hn:=qQ x.1 ho
  have ih:=iY c hs az is bs hl hx k (j+1) zaa
  rw[show((j+1:Nat):Int)=(j:Int)+1 from by omega] at ih
  rw[AU];conv=>lhs;whnf
  refine to ?_
  rw[hg]
  refine tq ?_
  rw[hn]
  refine tq ?_
  exact ih
theorem iZ(c:Int)(hs:List Int)(az:List (El AL))(is:List Int)(bs:List (List UInt8))(hl:is.length<=10)(hx:∀ x∈is,0<=x/\x<=1099511627776):∀(k j:Nat),j+k=is.length ->
  Y E0 (.loop 79 2 0 1 [(1,.pa 0 0),(7,.i (j:Int))] [(0,some (.var [.i c,.sl .i64 hs,.sl AL az,.sl .i64 is,.sl (.sl .u8) bs]))])=some (.fin (.exit 4) 1 [(1,.pa 0 0)] [(0,some (.var [.i c,.sl .i64 hs,.sl AL az,.sl .i64 is,.sl (.sl .u8) bs]))])
 | 0,j,hj=>by
  obtain rfl:j=is.length:=zaa
  rw[AU];conv=>lhs;whnf
  refine tq ?_
  with_reducible rfl
 | k+1,j,hj=>by
  obtain⟨x,hm,hg⟩:=Gp (l:=is) (i:=(j:Int)) zaa
  have ho:=hx x hm
  have ih:=iZ c hs az is bs hl hx k (j+1) zaa
  rw[show((j+1:Nat):Int)=(j:Int)+1 from by omega] at ih
  rw[AU];conv=>lhs;whnf
  refine to ?_
  rw[hg]
  refine to ?_
  rw[hg]
  refine tq ?_
  exact ih
theorem A3D(nb:Int)(hs:List Int)(az:List (El AL))(is:List Int)(bs:List (List UInt8))(hsh:Y E0 (.call 125 [.i c] [])=some (.ret (.tup [.agg [.i (hs.length:Int),.i (az.length:Int),.i (is.length:Int),.i nb],.b true]) []))(hct:Y E0 (.call 126 [.i nb,.i (bs.length:Int)] [])=some (.ret (.b true) []))(hl:hs.length<=10)(hal:az.length<=10)(hil:is.length<=10)(hbl:bs.length<=10)(hhm:∀ x∈hs,0<=x/\x<=65535)(ham:∀ x∈az,((0:Int)<=x.1/\(x.1:Int)<=65535)/\x.2.1.length<=128/\x.2.2.length<=128)(him:∀ x∈is,0<=x/\x<=1099511627776)(hbm:∀ x∈bs,x.length<=1024)(hlen:(Gn c hs az is bs).length<=2048):Y E0 (.call 79 [rq c hs az is bs] [])=some (.ret (.i 0) []):=by
 have l0:=iW c hs az is bs hl hhm hs.length 0 zaa
 have l1:=iY c hs az is bs hal (fun x hx=>(ham x hx).1) az.length 0 zaa
 have l2:=iZ c hs az is bs hil him is.length 0 zaa
 have hf:=A11 c hs az is bs hl hal (fun x hx=>(ham x hx).2) hil hbl hbm hlen
 rw[show((0:Nat):Int)=0 from rfl] at l0 l1 l2
 refine tq ?_
 rw[hsh]
 refine tq ?_
 rw[AC,hct]
 refine tq ?_
 rw[l0]
 refine tq ?_
 rw[l1]
 refine tq ?_
 rw[l2]
 refine tq ?_
 rw[hf]
 exact tq rfl
theorem qR(nb:Int)(hs:List Int)(az:List (El AL))(is:List Int)(bs:List (List UInt8))(hsh:Y E0 (.call 125 [.i c] [])=some (.ret (.tup [.agg [.i (hs.length:Int),.i (az.length:Int),.i (is.length:Int),.i nb],.b true]) []))(hct:Y E0 (.call 126 [.i nb,.i (bs.length:Int)] [])=some (.ret (.b true) []))(hl:hs.length<=10)(hal:az.length<=10)(hil:is.length<=10)(hbl:bs.length<=10)(hhm:∀ x∈hs,0<=x/\x<=65535)(ham:∀ x∈az,((0:Int)<=x.1/\(x.1:Int)<=65535)/\x.2.1.length<=128/\x.2.2.length<=128)(him:∀ x∈is,0<=x/\x<=1099511627776)(hbm:∀ x∈bs,x.length<=1024)(hlen:(Gn c hs az is bs).length<=2048):Y E0 (.call 38 [rq c hs az is bs] [])=some (.ret (.tup [.sl .u8 (Gn c hs az is bs),.i 0]) []):=by
 have hk:=A3D c nb hs az is bs hsh hct hl hal hil hbl hhm ham him hbm hlen
 have hf:=iT c hs az is bs hl hal (fun x hx=>by have:=(ham x hx).2;omega) hil hbl (fun x hx=>by have:=hbm x hx;omega)
 refine tq ?_
 rw[hk]
 refine tq ?_
 rw[hf]
 exact tq rfl
end
end Go.Proofs.YtanagnimhaemgaaGreatDoor
