/-
  Own texts, laid together for this claim: contracts of functions of the program and its references, used by the statements of this seat.
-/
import Derived.Test.YtanagnimhaemgaaGreatDoorKtac
import Derived.Test.YtanagnimhaemgaaGreatDoorKtad
import Derived.Test.YtanagnimhaemgaaGreatDoorKtaf
import Derived.Test.YtanagnimhaemgaaGreatDoorKtah
import Derived.Test.YtanagnimhaemgaaGreatDoorKtaj
import Derived.Test.YtanagnimhaemgaaGreatDoorKtal
set_option linter.all false
set_option maxHeartbeats 40000000
set_option maxRecDepth 100000
namespace Go.Proofs.YtanagnimhaemgaaGreatDoor
open Go Go.Ax Go.Eng
variable (c n:Int)(hs:List Int)(az:List (El AL))(is:List Int)(bs:List (List UInt8))
section
attribute [local irreducible] Bl CS CU CJ Bh Ak CV Du EN E5 EH Be BN CE Bz and' CG CO BC Ag Ar BF BG AY Aa AP AX CW Dv CX DT C9 BJ BD BA BB Au AQ Az Ac Aw Ah CY BL Bi BR BI CB CZ CP fits Cb CQ A8 AA AZ
theorem fO:Y E0 (.loop 158 0 0 0 [(0,.i 1),(9,.agg fmC),(10,.i 0)] [])=some (.fin .ret 0 [(2,.i 0),(3,.i 0),(4,.i 1),(5,.i 0),(6,.b true)] []):=by
 rw[AU];conv=>lhs;whnf
 exact tq rfl
theorem uo:Y E0 (.call 158 [.i 1] [])=some (.ret (.tup [.i 0,.i 0,.i 1,.i 0,.b true]) []):=by
 refine tq ?_
 rw[fO]
 exact tq rfl
theorem fP:Y E0 (.loop 158 0 0 0 [(0,.i 9),(9,.agg fmC),(10,.i 0)] [])=some (.fin .ret 0 [(2,.i 1),(3,.i 1),(4,.i 3),(5,.i 3),(6,.b true)] []):=by
 rw[AU];conv=>lhs;whnf
 refine tq ?_
 refine tq ?_
 refine tq ?_
 refine tq ?_
 refine tq ?_
 refine tq ?_
 refine tq ?_
 exact tq rfl
theorem uq:Y E0 (.call 158 [.i 9] [])=some (.ret (.tup [.i 1,.i 1,.i 3,.i 3,.b true]) []):=by
 refine tq ?_
 rw[fP]
 exact tq rfl
theorem Zr:Y E0 (.loop 158 0 0 0 [(0,.i 13),(9,.agg fmC),(10,.i 0)] [])=some (.fin .ret 0 [(2,.i 1),(3,.i 1),(4,.i 0),(5,.i 0),(6,.b true)] []):=by
 rw[AU];conv=>lhs;whnf
 refine tq ?_
 refine tq ?_
 refine tq ?_
 refine tq ?_
 refine tq ?_
 refine tq ?_
 refine tq ?_
 refine tq ?_
 refine tq ?_
 refine tq ?_
 refine tq ?_
 exact tq rfl
theorem lg:Y E0 (.call 158 [.i 13] [])=some (.ret (.tup [.i 1,.i 1,.i 0,.i 0,.b true]) []):=by
 refine tq ?_
 rw[Zr]
 exact tq rfl
theorem Zt:Y E0 (.loop 158 0 0 0 [(0,.i 16),(9,.agg fmC),(10,.i 0)] [])=some (.fin .ret 0 [(2,.i 0),(3,.i 0),(4,.i 1),(5,.i 0),(6,.b true)] []):=by
 rw[AU];conv=>lhs;whnf
 refine tq ?_
 refine tq ?_
 refine tq ?_
 refine tq ?_
 refine tq ?_
 refine tq ?_
 refine tq ?_
 refine tq ?_
 refine tq ?_
 refine tq ?_
 refine tq ?_
 refine tq ?_
 refine tq ?_
 refine tq ?_
 exact tq rfl
theorem lh:Y E0 (.call 158 [.i 16] [])=some (.ret (.tup [.i 0,.i 0,.i 1,.i 0,.b true]) []):=by
 refine tq ?_
 rw[Zt]
 exact tq rfl
theorem Zu:Y E0 (.loop 158 0 0 0 [(0,.i 17),(9,.agg fmC),(10,.i 0)] [])=some (.fin .ret 0 [(2,.i 0),(3,.i 0),(4,.i 6),(5,.i (-1)),(6,.b true)] []):=by
 rw[AU];conv=>lhs;whnf
 refine tq ?_
 refine tq ?_
 refine tq ?_
 refine tq ?_
 refine tq ?_
 refine tq ?_
 refine tq ?_
 refine tq ?_
 refine tq ?_
 refine tq ?_
 refine tq ?_
 refine tq ?_
 refine tq ?_
 refine tq ?_
 refine tq ?_
 exact tq rfl
theorem lm:Y E0 (.call 158 [.i 17] [])=some (.ret (.tup [.i 0,.i 0,.i 6,.i (-1),.b true]) []):=by
 refine tq ?_
 rw[Zu]
 exact tq rfl
theorem O8:Y E0 (.call 159 [.i n,.i n] [])=some (.ret (.b true) []):=by
 refine tq ?_
 with_reducible rfl
theorem Zv(h:0<=n/\n<=8):Y E0 (.call 159 [.i n,.i (-1)] [])=some (.ret (.b true) []):=by
 refine tq ?_
 with_reducible rfl
theorem fQ(h:0<=n/\n<=65535):Y E0 (.call 179 [.i n] [])=some (.ret (.b true) []):=by
 refine tq ?_
 with_reducible rfl
theorem fU(c:Int)(hs:List Int)(az:List (El AL))(is:List Int)(bs:List (List UInt8))(hl:hs.length<=10):∀(k j:Nat) (b:List UInt8),j+k=hs.length->b.length+2*k<=1000 ->
  Y E0 (.loop 180 0 0 2 [(1,.pa 0 0),(3,.nm 1),(20,.sl .i64 hs),(21,.i (hs.length:Int)),(22,.i (j:Int))] [(0,some (.var [.i c,.sl .i64 hs,.sl AL az,.sl .i64 is,.sl (.sl .u8) bs])),(1,some (.row 5 .u8 b))])
   = some (.fin (.exit 0) 2 [(1,.pa 0 0),(3,.nm 1)] [(0,some (.var [.i c,.sl .i64 hs,.sl AL az,.sl .i64 is,.sl (.sl .u8) bs])),(1,some (.row 5 .u8 (b++(hs.drop j).flatMap n2)))])
 | 0,j,b,hj,hb=>by
  obtain rfl:j=hs.length:=zaa
  rw[List.drop_length,List.flatMap_nil,List.append_nil]
  rw[AU];conv=>lhs;whnf
  refine tq ?_
  with_reducible rfl
 | k+1,j,b,hj,hb=>by
  obtain⟨x,hm,hg⟩:=Gp (l:=hs) (i:=(j:Int)) zaa
  have ih:=fU c hs az is bs hl k (j+1) (b++n2 x) zaa (by rw[List.length_append,DK];omega)
  rw[D5] at hg
  rw[show((j+1:Nat):Int)=(j:Int)+1 from by omega,List.append_assoc,<-List.flatMap_cons,<-H6 hg,<-SL] at ih
  rw[<-D5] at hg
  rw[AU];conv=>lhs;whnf
  refine to ?_
  rw[hg]
  refine tq ?_
  rw[DN _ _ _ Am]
  refine tq ?_
  exact ih
theorem A0g(hl:hs.length<=10)(b:List UInt8)(hb:b.length<=100):
  Y E0 (.loop 180 0 0 2 [(1,.pa 0 0),(3,.nm 1),(20,.sl .i64 hs),(21,.i (Aw hs)),(22,.i 0)] [(0,some (.var [.i c,.sl .i64 hs,.sl AL az,.sl .i64 is,.sl (.sl .u8) bs])),(1,some (.row 5 .u8 b))])
   = some (.fin (.exit 0) 2 [(1,.pa 0 0),(3,.nm 1)] [(0,some (.var [.i c,.sl .i64 hs,.sl AL az,.sl .i64 is,.sl (.sl .u8) bs])),(1,some (.row 5 .u8 (b++hs.flatMap n2)))]):=by
 have h:=fU c hs az is bs hl hs.length 0 b zaa zaa
 rw[AC];rw[List.drop_zero] at h;exact h
theorem A0h(b:List UInt8)(x:El AL)(h:x.2.1.length<=1000/\x.2.2.length<=1000):Gy (Gy (BH b 2 x.1) x.2.1) x.2.2=b++Ll x:=by
 rw[Fg zaa,Fg zaa,SL,Ll];simp only[List.append_assoc]
theorem VH(x:El AL)(h:x.2.1.length<=1000/\x.2.2.length<=1000):(Ll x).length<=2006:=by
 simp only[Ll,List.length_append,DK,Cc];omega
theorem fV(c:Int)(hs:List Int)(az:List (El AL))(is:List Int)(bs:List (List UInt8))(hl:az.length<=10)(hx:∀ x∈az,x.2.1.length<=1000/\x.2.2.length<=1000):∀(k j:Nat) (b:List UInt8),j+k=az.length->b.length+2006*k<=50000 ->
  Y E0 (.loop 180 1 0 2 [(1,.pa 0 0),(3,.nm 1),(31,.sl AL az),(32,.i (az.length:Int)),(33,.i (j:Int))] [(0,some (.var [.i c,.sl .i64 hs,.sl AL az,.sl .i64 is,.sl (.sl .u8) bs])),(1,some (.row 5 .u8 b))])
   = some (.fin (.exit 2) 2 [(1,.pa 0 0),(3,.nm 1)] [(0,some (.var [.i c,.sl .i64 hs,.sl AL az,.sl .i64 is,.sl (.sl .u8) bs])),(1,some (.row 5 .u8 (b++(az.drop j).flatMap Ll)))])
 | 0,j,b,hj,hb=>by
  obtain rfl:j=az.length:=zaa
  rw[List.drop_length,List.flatMap_nil,List.append_nil]
  rw[AU];conv=>lhs;whnf
  refine tq ?_
  with_reducible rfl
 | k+1,j,b,hj,hb=>by
  obtain⟨x,hm,hg⟩:=Gp (l:=az) (i:=(j:Int)) zaa
  have ho:=hx x hm
  have el:=VH x ho
  have ih:=fV c hs az is bs hl hx k (j+1) (b++Ll x) zaa zaA
  rw[D5] at hg
  rw[show((j+1:Nat):Int)=(j:Int)+1 from by omega,List.append_assoc,<-List.flatMap_cons,<-H6 hg,<-A0h b x ho] at ih
  rw[<-D5] at hg
  rw[AU];conv=>lhs;whnf
  refine to ?_
  rw[hg]
  refine tq ?_
  rw[DN _ _ _ Am]
  refine tq ?_
  rw[FQ _ _ Am]
  refine tq ?_
  rw[FQ _ _ Am]
  refine tq ?_
  exact ih
theorem A0i(hl:az.length<=10)(hx:∀ x∈az,x.2.1.length<=1000/\x.2.2.length<=1000)(b:List UInt8)(hb:b.length<=20000):
  Y E0 (.loop 180 1 0 2 [(1,.pa 0 0),(3,.nm 1),(31,.sl AL az),(32,.i (Aw az)),(33,.i 0)] [(0,some (.var [.i c,.sl .i64 hs,.sl AL az,.sl .i64 is,.sl (.sl .u8) bs])),(1,some (.row 5 .u8 b))])
   = some (.fin (.exit 2) 2 [(1,.pa 0 0),(3,.nm 1)] [(0,some (.var [.i c,.sl .i64 hs,.sl AL az,.sl .i64 is,.sl (.sl .u8) bs])),(1,some (.row 5 .u8 (b++az.flatMap Ll)))]):=by
 have h:=fV c hs az is bs hl hx az.length 0 b zaa zaa
 rw[AC];rw[List.drop_zero] at h;exact h
theorem fZ(c:Int)(hs:List Int)(az:List (El AL))(is:List Int)(bs:List (List UInt8))(hl:is.length<=10):∀(k j:Nat) (b:List UInt8),j+k=is.length->b.length+8*k<=50000 ->
  Y E0 (.loop 180 2 0 2 [(1,.pa 0 0),(3,.nm 1),(49,.sl .i64 is),(50,.i (is.length:Int)),(51,.i (j:Int))] [(0,some (.var [.i c,.sl .i64 hs,.sl AL az,.sl .i64 is,.sl (.sl .u8) bs])),(1,some (.row 5 .u8 b))])
   = some (.fin (.exit 4) 2 [(1,.pa 0 0),(3,.nm 1)] [(0,some (.var [.i c,.sl .i64 hs,.sl AL az,.sl .i64 is,.sl (.sl .u8) bs])),(1,some (.row 5 .u8 (b++(is.drop j).flatMap n8)))])
 | 0,j,b,hj,hb=>by
  obtain rfl:j=is.length:=zaa
  rw[List.drop_length,List.flatMap_nil,List.append_nil]
  rw[AU];conv=>lhs;whnf
  refine tq ?_
  with_reducible rfl
 | k+1,j,b,hj,hb=>by
  obtain⟨x,hm,hg⟩:=Gp (l:=is) (i:=(j:Int)) zaa
  have el:=Bo x
  have ih:=fZ c hs az is bs hl k (j+1) (b++n8 x) zaa zaA
  rw[D5] at hg
  rw[show((j+1:Nat):Int)=(j:Int)+1 from by omega,List.append_assoc,<-List.flatMap_cons,<-H6 hg,<-Kv] at ih
  rw[<-D5] at hg
  rw[AU];conv=>lhs;whnf
  refine to ?_
  rw[hg]
  refine tq ?_
  rw[DN _ _ _ Am]
  refine tq ?_
  exact ih
theorem A0j(hl:is.length<=10)(b:List UInt8)(hb:b.length<=40000):
  Y E0 (.loop 180 2 0 2 [(1,.pa 0 0),(3,.nm 1),(49,.sl .i64 is),(50,.i (Aw is)),(51,.i 0)] [(0,some (.var [.i c,.sl .i64 hs,.sl AL az,.sl .i64 is,.sl (.sl .u8) bs])),(1,some (.row 5 .u8 b))])
   = some (.fin (.exit 4) 2 [(1,.pa 0 0),(3,.nm 1)] [(0,some (.var [.i c,.sl .i64 hs,.sl AL az,.sl .i64 is,.sl (.sl .u8) bs])),(1,some (.row 5 .u8 (b++is.flatMap n8)))]):=by
 have h:=fZ c hs az is bs hl is.length 0 b zaa zaa
 rw[AC];rw[List.drop_zero] at h;exact h
theorem gK(bs:List (List UInt8))(hl:bs.length<=10)(hx:∀ x∈bs,x.length<=2000):∀(k j:Nat) (b:List UInt8),j+k=bs.length->b.length+2002*k<=100000 ->
  Y E0 (.loop 180 3 0 1 [(3,.nm 0),(67,.sl (.sl .u8) bs),(68,.i (bs.length:Int)),(69,.i (j:Int))] [(0,some (.row 5 .u8 b))])
   = some (.fin (.exit 6) 1 [(3,.nm 0)] [(0,some (.row 5 .u8 (b++(bs.drop j).flatMap bl)))])
 | 0,j,b,hj,hb=>by
  obtain rfl:j=bs.length:=zaa
  rw[List.drop_length,List.flatMap_nil,List.append_nil]
  rw[AU];conv=>lhs;whnf
  refine tq ?_
  with_reducible rfl
 | k+1,j,b,hj,hb=>by
  obtain⟨x,hm,hg⟩:=Gp (l:=bs) (i:=(j:Int)) zaa
  have ho:=hx x hm
  have el:=Cc x
  have ih:=gK bs hl hx k (j+1) (b++bl x) zaa zaA
  rw[D5] at hg
  rw[show((j+1:Nat):Int)=(j:Int)+1 from by omega,List.append_assoc,<-List.flatMap_cons,<-H6 hg,<-Fg (show x.length<=65535 by omega)] at ih
  rw[<-D5] at hg
  rw[AU];conv=>lhs;whnf
  refine to ?_
  rw[hg]
  refine tq ?_
  rw[FQ _ _ Am]
  refine tq ?_
  exact ih
theorem A0k(hl:bs.length<=10)(hx:∀ x∈bs,x.length<=2000)(b:List UInt8)(hb:b.length<=70000):
  Y E0 (.loop 180 3 0 1 [(3,.nm 0),(67,.sl (.sl .u8) bs),(68,.i (Aw bs)),(69,.i 0)] [(0,some (.row 5 .u8 b))])
   = some (.fin (.exit 6) 1 [(3,.nm 0)] [(0,some (.row 5 .u8 (b++bs.flatMap bl)))]):=by
 have h:=gK bs hl hx bs.length 0 b zaa zaa
 rw[AC];rw[List.drop_zero] at h;exact h
theorem A6W:CZ (BI (BI [UInt8.ofNat 83,UInt8.ofNat 87] [UInt8.ofNat 0,UInt8.ofNat 0,DT c]++List.flatMap n2 hs++List.flatMap Ll az++List.flatMap n8 is) [DT (Aw bs)]++List.flatMap bl bs) 2 4 (BH [] 2 (Aw (BI (BI [UInt8.ofNat 83,UInt8.ofNat 87] [UInt8.ofNat 0,UInt8.ofNat 0,DT c]++List.flatMap n2 hs++List.flatMap Ll az++List.flatMap n8 is) [DT (Aw bs)]++List.flatMap bl bs)))=Gn c hs az is bs:=by
 simp only[Ap,AC,EM,SL,List.nil_append,List.append_assoc,List.cons_append]
 rw[Gn,IY]
 simp only[List.append_assoc,List.cons_append,List.nil_append,List.length_cons]
 generalize List.flatMap n2 hs++(List.flatMap Ll az++(List.flatMap n8 is++UInt8.ofInt (bs.length:Int)::List.flatMap bl bs))=B
 rw[jd,lcpv0]
 have h2:=DK ((B.length+1+1+1+1+1:Nat):Int)
 rw[show(5:Int)+(B.length:Int)=((B.length+1+1+1+1+1:Nat):Int) from by omega]
 generalize n2 ((B.length+1+1+1+1+1:Nat):Int)=N at h2 ⊢
 have hN:N.take 2=N:=List.take_of_length_le zaa
 rw[h2]
 show [_,_]++N.take 2++_::B=_
 rw[hN];simp
theorem ut(hl:hs.length<=10)(hal:az.length<=10)(ham:∀ x∈az,x.2.1.length<=1000/\x.2.2.length<=1000)(hil:is.length<=10)(hbl:bs.length<=10)(hbm:∀ x∈bs,x.length<=2000):Y E0 (.call 180 [rq c hs az is bs] [])=some (.ret (.sl .u8 (Gn c hs az is bs)) []):=by
 have hH:(hs.flatMap n2).length<=20:=Nat.le_trans (Ht (m:=2) fun x _=>by rw[DK];decide) zaa
 have hA:(az.flatMap Ll).length<=20060:=Nat.le_trans (Ht (m:=2006) fun x hx=>VH x (ham x hx)) zaa
 have hI:(is.flatMap n8).length<=80:=Nat.le_trans (Ht (m:=8) fun x _=>by rw[Bo];decide) zaa
 have hB:(bs.flatMap bl).length<=20020:=Nat.le_trans (Ht (m:=2002) fun x hx=>by have:=hbm x hx;rw[Cc];omega) zaa
 refine tq ?_
 rw[A0g _ _ _ _ _ Am _ Am]
 refine tq ?_
 rw[A0i _ _ _ _ _ Am Am _ Am]
 refine tq ?_
 rw[A0j _ _ _ _ _ Am _ Am]
 refine tq ?_
 rw[A0k _ Am Am _ Am]
 refine tq ?_
 rw[DN _ _ _ Am]
 refine tq ?_
 (rw[<-A6W])
theorem gQ(c:Int)(hs:List Int)(az:List (El AL))(is:List Int)(bs:List (List UInt8))(hl:hs.length<=10)(hx:∀ x∈hs,0<=x/\x<=65535):∀(k j:Nat),j+k=hs.length ->
  Y E0 (.loop 160 0 0 1 [(1,.pa 0 0),(8,.b true),(57,.sl .i64 hs),(58,.i (hs.length:Int)),(59,.i (j:Int))] [(0,some (.var [.i c,.sl .i64 hs,.sl AL az,.sl .i64 is,.sl (.sl .u8) bs]))])=some (.fin (.exit 0) 1 [(1,.pa 0 0),(8,.b true)] [(0,some (.var [.i c,.sl .i64 hs,.sl AL az,.sl .i64 is,.sl (.sl .u8) bs]))])
 | 0,j,hj=>by
  obtain rfl:j=hs.length:=zaa
  rw[AU];conv=>lhs;whnf
  refine tq ?_
  with_reducible rfl
 | k+1,j,hj=>by
  obtain⟨x,hm,hg⟩:=Gp (l:=hs) (i:=(j:Int)) zaa
  have ho:=hx x hm
  have ih:=gQ c hs az is bs hl hx k (j+1) zaa
  rw[show((j+1:Nat):Int)=(j:Int)+1 from by omega] at ih
  rw[AU];conv=>lhs;whnf
  refine to ?_
  rw[hg]
  refine tq ?_
  rw[fQ _ Am]
  refine tq ?_
  exact ih
theorem A0l(hl:hs.length<=10)(hx:∀ x∈hs,0<=x/\x<=65535):
  Y E0 (.loop 160 0 0 1 [(1,.pa 0 0),(8,.b true),(57,.sl .i64 hs),(58,.i (Aw hs)),(59,.i 0)] [(0,some (.var [.i c,.sl .i64 hs,.sl AL az,.sl .i64 is,.sl (.sl .u8) bs]))])=some (.fin (.exit 0) 1 [(1,.pa 0 0),(8,.b true)] [(0,some (.var [.i c,.sl .i64 hs,.sl AL az,.sl .i64 is,.sl (.sl .u8) bs]))]):=by
 have h:=gQ c hs az is bs hl hx hs.length 0 zaa
 rw[AC];exact h
theorem gU(c:Int)(hs:List Int)(az:List (El AL))(is:List Int)(bs:List (List UInt8))(hl:az.length<=10)(hx:∀ x∈az,0<=x.1/\x.1<=65535):∀(k j:Nat),j+k=az.length ->
  Y E0 (.loop 160 1 0 1 [(1,.pa 0 0),(8,.b true),(70,.sl AL az),(71,.i (az.length:Int)),(72,.i (j:Int))] [(0,some (.var [.i c,.sl .i64 hs,.sl AL az,.sl .i64 is,.sl (.sl .u8) bs]))])=some (.fin (.exit 2) 1 [(1,.pa 0 0),(8,.b true)] [(0,some (.var [.i c,.sl .i64 hs,.sl AL az,.sl .i64 is,.sl (.sl .u8) bs]))])
 | 0,j,hj=>by
  obtain rfl:j=az.length:=zaa
  rw[AU];conv=>lhs;whnf
  refine tq ?_
  with_reducible rfl
 | k+1,j,hj=>by
  obtain⟨x,hm,hg⟩:=Gp (l:=az) (i:=(j:Int)) zaa
  have ho:=hx x hm
  have ih:=gU c hs az is bs hl hx k (j+1) zaa
  rw[show((j+1:Nat):Int)=(j:Int)+1 from by omega] at ih
  rw[AU];conv=>lhs;whnf
  refine to ?_
  rw[hg]
  refine tq ?_
  rw[fQ _ Am]
  refine tq ?_
  exact ih
theorem A0m(hl:az.length<=10)(hx:∀ x∈az,0<=x.1/\x.1<=65535):
  Y E0 (.loop 160 1 0 1 [(1,.pa 0 0),(8,.b true),(70,.sl AL az),(71,.i (Aw az)),(72,.i 0)] [(0,some (.var [.i c,.sl .i64 hs,.sl AL az,.sl .i64 is,.sl (.sl .u8) bs]))])=some (.fin (.exit 2) 1 [(1,.pa 0 0),(8,.b true)] [(0,some (.var [.i c,.sl .i64 hs,.sl AL az,.sl .i64 is,.sl (.sl .u8) bs]))]):=by
 have h:=gU c hs az is bs hl hx az.length 0 zaa
 rw[AC];exact h
theorem gV(c:Int)(hs:List Int)(az:List (El AL))(is:List Int)(bs:List (List UInt8))(hl:is.length<=10)(hx:∀ x∈is,0<=x/\x<=1099511627776):∀(k j:Nat),j+k=is.length ->
  Y E0 (.loop 160 2 0 1 [(1,.pa 0 0),(8,.b true),(84,.sl .i64 is),(85,.i (is.length:Int)),(86,.i (j:Int))] [(0,some (.var [.i c,.sl .i64 hs,.sl AL az,.sl .i64 is,.sl (.sl .u8) bs]))])=some (.fin (.exit 4) 1 [(1,.pa 0 0),(8,.b true)] [(0,some (.var [.i c,.sl .i64 hs,.sl AL az,.sl .i64 is,.sl (.sl .u8) bs]))])
 | 0,j,hj=>by
  obtain rfl:j=is.length:=zaa
  rw[AU];conv=>lhs;whnf
  refine tq ?_
  with_reducible rfl
 | k+1,j,hj=>by
  obtain⟨x,hm,hg⟩:=Gp (l:=is) (i:=(j:Int)) zaa
  have ho:=hx x hm
  have ih:=gV c hs az is bs hl hx k (j+1) zaa
  rw[show((j+1:Nat):Int)=(j:Int)+1 from by omega] at ih
  rw[AU];conv=>lhs;whnf
  refine to ?_
  rw[hg]
  conv=>lhs;whnf
  rw[Fh zaa]
  conv=>lhs;whnf
  try dsimp -iota -beta -eta -zeta only
  rw[D7 zaa]
  rw[Fh (show x<=1099511627776 by omega)];exact ih
theorem A0n(hl:is.length<=10)(hx:∀ x∈is,0<=x/\x<=1099511627776):
  Y E0 (.loop 160 2 0 1 [(1,.pa 0 0),(8,.b true),(84,.sl .i64 is),(85,.i (Aw is)),(86,.i 0)] [(0,some (.var [.i c,.sl .i64 hs,.sl AL az,.sl .i64 is,.sl (.sl .u8) bs]))])=some (.fin (.exit 4) 1 [(1,.pa 0 0),(8,.b true)] [(0,some (.var [.i c,.sl .i64 hs,.sl AL az,.sl .i64 is,.sl (.sl .u8) bs]))]):=by
 have h:=gV c hs az is bs hl hx is.length 0 zaa
 rw[AC];exact h
theorem gW(c:Int)(hs:List Int)(az:List (El AL))(is:List Int)(bs:List (List UInt8))(hl:az.length<=10)(hx:∀ x∈az,x.2.1.length<=128/\x.2.2.length<=128):∀(k j:Nat),j+k=az.length ->
  Y E0 (.loop 160 3 0 1 [(1,.pa 0 0),(8,.b true),(103,.sl AL az),(104,.i (az.length:Int)),(105,.i (j:Int))] [(0,some (.var [.i c,.sl .i64 hs,.sl AL az,.sl .i64 is,.sl (.sl .u8) bs]))])=some (.fin (.exit 6) 1 [(1,.pa 0 0),(8,.b true)] [(0,some (.var [.i c,.sl .i64 hs,.sl AL az,.sl .i64 is,.sl (.sl .u8) bs]))])
 | 0,j,hj=>by
  obtain rfl:j=az.length:=zaa
  rw[AU];conv=>lhs;whnf
  refine tq ?_
  with_reducible rfl
 | k+1,j,hj=>by
  obtain⟨x,hm,hg⟩:=Gp (l:=az) (i:=(j:Int)) zaa
  have ho:=hx x hm
  have ih:=gW c hs az is bs hl hx k (j+1) zaa
  rw[show((j+1:Nat):Int)=(j:Int)+1 from by omega] at ih
  rw[AU];conv=>lhs;whnf
  refine to ?_
  rw[hg]
  conv=>lhs;whnf
  rw[Fh zas]
  conv=>lhs;whnf
  try dsimp -iota -beta -eta -zeta only
  rw[D7 zaa]
  rw[Fh (show Aw x.2.2<=128 by rw[AC];omega)];exact ih
theorem A0o(hl:az.length<=10)(hx:∀ x∈az,x.2.1.length<=128/\x.2.2.length<=128):
  Y E0 (.loop 160 3 0 1 [(1,.pa 0 0),(8,.b true),(103,.sl AL az),(104,.i (Aw az)),(105,.i 0)] [(0,some (.var [.i c,.sl .i64 hs,.sl AL az,.sl .i64 is,.sl (.sl .u8) bs]))])=some (.fin (.exit 6) 1 [(1,.pa 0 0),(8,.b true)] [(0,some (.var [.i c,.sl .i64 hs,.sl AL az,.sl .i64 is,.sl (.sl .u8) bs]))]):=by
 have h:=gW c hs az is bs hl hx az.length 0 zaa
 rw[AC];exact h
theorem gX(c:Int)(hs:List Int)(az:List (El AL))(is:List Int)(bs:List (List UInt8))(hl:bs.length<=10)(hx:∀ x∈bs,x.length<=1024):∀(k j:Nat),j+k=bs.length ->
  Y E0 (.loop 160 4 0 1 [(1,.pa 0 0),(8,.b true),(124,.sl (.sl .u8) bs),(125,.i (bs.length:Int)),(126,.i (j:Int))] [(0,some (.var [.i c,.sl .i64 hs,.sl AL az,.sl .i64 is,.sl (.sl .u8) bs]))])=some (.fin (.exit 8) 1 [(1,.pa 0 0),(8,.b true)] [(0,some (.var [.i c,.sl .i64 hs,.sl AL az,.sl .i64 is,.sl (.sl .u8) bs]))])
 | 0,j,hj=>by
  obtain rfl:j=bs.length:=zaa
  rw[AU];conv=>lhs;whnf
  refine tq ?_
  with_reducible rfl
 | k+1,j,hj=>by
  obtain⟨x,hm,hg⟩:=Gp (l:=bs) (i:=(j:Int)) zaa
  have ho:=hx x hm
  have ih:=gX c hs az is bs hl hx k (j+1) zaa
  rw[show((j+1:Nat):Int)=(j:Int)+1 from by omega] at ih
  rw[AU];conv=>lhs;whnf
  refine to ?_
  rw[hg]
  conv=>lhs;whnf
  try dsimp -iota -beta -eta -zeta only
  rw[D7 zaa]
  rw[Fh (show Aw x<=1024 by rw[AC];omega)];exact ih
theorem A0p(hl:bs.length<=10)(hx:∀ x∈bs,x.length<=1024):
  Y E0 (.loop 160 4 0 1 [(1,.pa 0 0),(8,.b true),(124,.sl (.sl .u8) bs),(125,.i (Aw bs)),(126,.i 0)] [(0,some (.var [.i c,.sl .i64 hs,.sl AL az,.sl .i64 is,.sl (.sl .u8) bs]))])=some (.fin (.exit 8) 1 [(1,.pa 0 0),(8,.b true)] [(0,some (.var [.i c,.sl .i64 hs,.sl AL az,.sl .i64 is,.sl (.sl .u8) bs]))]):=by
 have h:=gX c hs az is bs hl hx bs.length 0 zaa
 rw[AC];exact h
theorem uu(nb:Int)(hs:List Int)(az:List (El AL))(is:List Int)(bs:List (List UInt8))(hsh:Y E0 (.call 158 [.i c] [])=some (.ret (.tup [.i (hs.length:Int),.i (az.length:Int),.i (is.length:Int),.i nb,.b true]) []))(hct:Y E0 (.call 159 [.i (bs.length:Int),.i nb] [])=some (.ret (.b true) []))(hl:hs.length<=10)(hal:az.length<=10)(hil:is.length<=10)(hbl:bs.length<=10)(hhm:∀ x∈hs,0<=x/\x<=65535)(ham:∀ x∈az,(0<=x.1/\x.1<=65535)/\x.2.1.length<=128/\x.2.2.length<=128)(him:∀ x∈is,0<=x/\x<=1099511627776)(hbm:∀ x∈bs,x.length<=1024)(hlen:(Gn c hs az is bs).length<=2048):Y E0 (.call 160 [rq c hs az is bs] [])=some (.ret (.i 0) []):=by
 have hw:=ut c hs az is bs hl hal (fun x hx=>by have:=ham x hx;omega) hil hbl (fun x hx=>by have:=hbm x hx;omega)
 have m0:=A0l c hs az is bs hl hhm
 have m1:=A0m c hs az is bs hal (fun x hx=>(ham x hx).1)
 have m2:=A0n c hs az is bs hil him
 have m3:=A0o c hs az is bs hal (fun x hx=>(ham x hx).2)
 have m4:=A0p c hs az is bs hbl hbm
 refine tq ?_
 rw[hsh]
 refine tq ?_
 rw[AC,hct]
 refine tq ?_
 rw[m0]
 refine tq ?_
 rw[m1]
 refine tq ?_
 rw[m2]
 refine tq ?_
 rw[m3]
 refine tq ?_
 rw[m4]
 refine tq ?_
 rw[hw]
 exact tq rfl
end
end Go.Proofs.YtanagnimhaemgaaGreatDoor
