/- Own texts of this claim: contracts of functions. -/
import Derived.Test.YtlpkjhhfhannpaaGreatDoorBtad
set_option linter.all false
set_option maxHeartbeats 40000000
set_option maxRecDepth 100000
namespace Go.Proofs.YtlpkjhhfhannpaaGreatDoor
open Go Go.Ax Go.Eng
attribute [local irreducible] CS Cj CP CW CQ BC Cm ED ES Dx EG CJ Bi Ce CX and' Cf CU BL Au BI BP BR Ag Ai AY Ae D5 EJ D6 DX Cb BZ BQ BM BO BJ AZ BK Aj Ak Ap D7 BB CV BU BF CO D8 Cc fits D9 Ci AC AQ Ah
variable (c n:Int)(hs:List Int)(az:List (El AB))(is:List Int)(bs:List (List UInt8))
theorem ng:Y E0 (.loop 128 0 0 0 [(0,.i 1),(9,.agg fmC),(10,.i 0)] [])=some (.fin .ret 0 [(2,.i 0),(3,.i 0),(4,.i 1),(5,.i 0),(6,.b true)] []):=by
 rw[AL];conv=>lhs;whnf
 exact tq rfl
theorem A10:Y E0 (.call 128 [.i 1] [])=some (.ret (.tup [.i 0,.i 0,.i 1,.i 0,.b true]) []):=by
 refine tq ?_
 rw[ng]
 exact tq rfl
theorem ni:Y E0 (.loop 128 0 0 0 [(0,.i 9),(9,.agg fmC),(10,.i 0)] [])=some (.fin .ret 0 [(2,.i 1),(3,.i 1),(4,.i 3),(5,.i 3),(6,.b true)] []):=by
 rw[AL];conv=>lhs;whnf
 refine tq ?_
 refine tq ?_
 refine tq ?_
 refine tq ?_
 refine tq ?_
 refine tq ?_
 refine tq ?_
 exact tq rfl
theorem A11:Y E0 (.call 128 [.i 9] [])=some (.ret (.tup [.i 1,.i 1,.i 3,.i 3,.b true]) []):=by
 refine tq ?_
 rw[ni]
 exact tq rfl
theorem iV:Y E0 (.loop 128 0 0 0 [(0,.i 13),(9,.agg fmC),(10,.i 0)] [])=some (.fin .ret 0 [(2,.i 1),(3,.i 1),(4,.i 0),(5,.i 0),(6,.b true)] []):=by
 rw[AL];conv=>lhs;whnf
 refine tq ?_
 refine tq ?_
 refine tq ?_
 refine tq ?_
 refine tq ?_
 refine tq ?_
 refine tq ?_
 refine tq ?_
 refine tq ?_
 refine tq ?_
 refine tq ?_
 exact tq rfl
theorem vF:Y E0 (.call 128 [.i 13] [])=some (.ret (.tup [.i 1,.i 1,.i 0,.i 0,.b true]) []):=by
 refine tq ?_
 rw[iV]
 exact tq rfl
theorem iW:Y E0 (.loop 128 0 0 0 [(0,.i 16),(9,.agg fmC),(10,.i 0)] [])=some (.fin .ret 0 [(2,.i 0),(3,.i 0),(4,.i 1),(5,.i 0),(6,.b true)] []):=by
 rw[AL];conv=>lhs;whnf
 refine tq ?_
 refine tq ?_
 refine tq ?_
 refine tq ?_
 refine tq ?_
 refine tq ?_
 refine tq ?_
 refine tq ?_
 refine tq ?_
 refine tq ?_
 refine tq ?_
 refine tq ?_
 refine tq ?_
 refine tq ?_
 exact tq rfl
theorem vG:Y E0 (.call 128 [.i 16] [])=some (.ret (.tup [.i 0,.i 0,.i 1,.i 0,.b true]) []):=by
 refine tq ?_
 rw[iW]
 exact tq rfl
theorem iY:Y E0 (.loop 128 0 0 0 [(0,.i 17),(9,.agg fmC),(10,.i 0)] [])=some (.fin .ret 0 [(2,.i 0),(3,.i 0),(4,.i 6),(5,.i (-1)),(6,.b true)] []):=by
 rw[AL];conv=>lhs;whnf
 refine tq ?_
 refine tq ?_
 refine tq ?_
 refine tq ?_
 refine tq ?_
 refine tq ?_
 refine tq ?_
 refine tq ?_
 refine tq ?_
 refine tq ?_
 refine tq ?_
 refine tq ?_
 refine tq ?_
 refine tq ?_
 refine tq ?_
 exact tq rfl
theorem vH:Y E0 (.call 128 [.i 17] [])=some (.ret (.tup [.i 0,.i 0,.i 6,.i (-1),.b true]) []):=by
 refine tq ?_
 rw[iY]
 exact tq rfl
theorem MZ:Y E0 (.call 133 [.i n,.i n] [])=some (.ret (.b true) []):=by
 refine tq ?_
 with_reducible rfl
theorem iZ(h:0<=n/\n<=8):Y E0 (.call 133 [.i n,.i (-1)] [])=some (.ret (.b true) []):=by
 refine tq ?_
 with_reducible rfl
theorem ny(h:0<=n/\n<=65535):Y E0 (.call 179 [.i n] [])=some (.ret (.b true) []):=by
 refine tq ?_
 with_reducible rfl
theorem nz(c:Int)(hs:List Int)(az:List (El AB))(is:List Int)(bs:List (List UInt8))(hl:hs.length<=10):∀(k j:Nat) (b:List UInt8),j+k=hs.length->b.length+2*k<=1000 ->
  Y E0 (.loop 180 0 0 2 [(1,.pa 0 0),(3,.nm 1),(20,.sl .i64 hs),(21,.i (hs.length:Int)),(22,.i (j:Int))] [(0,some (.var [.i c,.sl .i64 hs,.sl AB az,.sl .i64 is,.sl (.sl .u8) bs])),(1,some (.row 5 .u8 b))])
   = some (.fin (.exit 0) 2 [(1,.pa 0 0),(3,.nm 1)] [(0,some (.var [.i c,.sl .i64 hs,.sl AB az,.sl .i64 is,.sl (.sl .u8) bs])),(1,some (.row 5 .u8 (b++(hs.drop j).flatMap n2)))])
 | 0,j,b,hj,hb=>by
  obtain rfl:j=hs.length:=zaa
  rw[List.drop_length,List.flatMap_nil,List.append_nil]
  rw[AL];conv=>lhs;whnf
  refine tq ?_
  with_reducible rfl
 | k+1,j,b,hj,hb=>by
  obtain⟨x,hm,hg⟩:=EO (l:=hs) (i:=(j:Int)) zaa
  have ih:=nz c hs az is bs hl k (j+1) (b++n2 x) zaa (by rw[List.length_append,Bh];omega)
  rw[DU] at hg
  rw[show((j+1:Nat):Int)=(j:Int)+1 from by omega,List.append_assoc,<-List.flatMap_cons,<-HY hg,<-UN] at ih
  rw[<-DU] at hg
  rw[AL];conv=>lhs;whnf
  refine to ?_
  rw[hg]
  refine tq ?_
  rw[Dy _ _ _ AA]
  refine tq ?_
  exact ih
theorem A4f(hl:hs.length<=10)(b:List UInt8)(hb:b.length<=100):
  Y E0 (.loop 180 0 0 2 [(1,.pa 0 0),(3,.nm 1),(20,.sl .i64 hs),(21,.i (Ak hs)),(22,.i 0)] [(0,some (.var [.i c,.sl .i64 hs,.sl AB az,.sl .i64 is,.sl (.sl .u8) bs])),(1,some (.row 5 .u8 b))])
   = some (.fin (.exit 0) 2 [(1,.pa 0 0),(3,.nm 1)] [(0,some (.var [.i c,.sl .i64 hs,.sl AB az,.sl .i64 is,.sl (.sl .u8) bs])),(1,some (.row 5 .u8 (b++hs.flatMap n2)))]):=by
 have h:=nz c hs az is bs hl hs.length 0 b zaa zaa
 rw[AP];rw[List.drop_zero] at h;exact h
theorem A4g(b:List UInt8)(x:El AB)(h:x.2.1.length<=1000/\x.2.2.length<=1000):Hy (Hy (Bg b 2 x.1) x.2.1) x.2.2=b++Jt x:=by
 rw[GX zaa,GX zaa,UN,Jt];simp only[List.append_assoc]
theorem XI(x:El AB)(h:x.2.1.length<=1000/\x.2.2.length<=1000):(Jt x).length<=2006:=by
 simp only[Jt,List.length_append,Bh,Ba];omega
theorem o5(c:Int)(hs:List Int)(az:List (El AB))(is:List Int)(bs:List (List UInt8))(hl:az.length<=10)(hx:∀ x∈az,x.2.1.length<=1000/\x.2.2.length<=1000):∀(k j:Nat) (b:List UInt8),j+k=az.length->b.length+2006*k<=50000 ->
  Y E0 (.loop 180 1 0 2 [(1,.pa 0 0),(3,.nm 1),(31,.sl AB az),(32,.i (az.length:Int)),(33,.i (j:Int))] [(0,some (.var [.i c,.sl .i64 hs,.sl AB az,.sl .i64 is,.sl (.sl .u8) bs])),(1,some (.row 5 .u8 b))])
   = some (.fin (.exit 2) 2 [(1,.pa 0 0),(3,.nm 1)] [(0,some (.var [.i c,.sl .i64 hs,.sl AB az,.sl .i64 is,.sl (.sl .u8) bs])),(1,some (.row 5 .u8 (b++(az.drop j).flatMap Jt)))])
 | 0,j,b,hj,hb=>by
  obtain rfl:j=az.length:=zaa
  rw[List.drop_length,List.flatMap_nil,List.append_nil]
  rw[AL];conv=>lhs;whnf
  refine tq ?_
  with_reducible rfl
 | k+1,j,b,hj,hb=>by
  obtain⟨x,hm,hg⟩:=EO (l:=az) (i:=(j:Int)) zaa
  have ho:=hx x hm
  have el:=XI x ho
  have ih:=o5 c hs az is bs hl hx k (j+1) (b++Jt x) zaa zaP
  rw[DU] at hg
  rw[show((j+1:Nat):Int)=(j:Int)+1 from by omega,List.append_assoc,<-List.flatMap_cons,<-HY hg,<-A4g b x ho] at ih
  rw[<-DU] at hg
  rw[AL];conv=>lhs;whnf
  refine to ?_
  rw[hg]
  refine tq ?_
  rw[Dy _ _ _ AA]
  refine tq ?_
  rw[G9 _ _ AA]
  refine tq ?_
  rw[G9 _ _ AA]
  refine tq ?_
  exact ih
theorem A4h(hl:az.length<=10)(hx:∀ x∈az,x.2.1.length<=1000/\x.2.2.length<=1000)(b:List UInt8)(hb:b.length<=20000):
  Y E0 (.loop 180 1 0 2 [(1,.pa 0 0),(3,.nm 1),(31,.sl AB az),(32,.i (Ak az)),(33,.i 0)] [(0,some (.var [.i c,.sl .i64 hs,.sl AB az,.sl .i64 is,.sl (.sl .u8) bs])),(1,some (.row 5 .u8 b))])
   = some (.fin (.exit 2) 2 [(1,.pa 0 0),(3,.nm 1)] [(0,some (.var [.i c,.sl .i64 hs,.sl AB az,.sl .i64 is,.sl (.sl .u8) bs])),(1,some (.row 5 .u8 (b++az.flatMap Jt)))]):=by
 have h:=o5 c hs az is bs hl hx az.length 0 b zaa zaa
 rw[AP];rw[List.drop_zero] at h;exact h
theorem o7(c:Int)(hs:List Int)(az:List (El AB))(is:List Int)(bs:List (List UInt8))(hl:is.length<=10):∀(k j:Nat) (b:List UInt8),j+k=is.length->b.length+8*k<=50000 ->
  Y E0 (.loop 180 2 0 2 [(1,.pa 0 0),(3,.nm 1),(49,.sl .i64 is),(50,.i (is.length:Int)),(51,.i (j:Int))] [(0,some (.var [.i c,.sl .i64 hs,.sl AB az,.sl .i64 is,.sl (.sl .u8) bs])),(1,some (.row 5 .u8 b))])
   = some (.fin (.exit 4) 2 [(1,.pa 0 0),(3,.nm 1)] [(0,some (.var [.i c,.sl .i64 hs,.sl AB az,.sl .i64 is,.sl (.sl .u8) bs])),(1,some (.row 5 .u8 (b++(is.drop j).flatMap n8)))])
 | 0,j,b,hj,hb=>by
  obtain rfl:j=is.length:=zaa
  rw[List.drop_length,List.flatMap_nil,List.append_nil]
  rw[AL];conv=>lhs;whnf
  refine tq ?_
  with_reducible rfl
 | k+1,j,b,hj,hb=>by
  obtain⟨x,hm,hg⟩:=EO (l:=is) (i:=(j:Int)) zaa
  have el:=BX x
  have ih:=o7 c hs az is bs hl k (j+1) (b++n8 x) zaa zaP
  rw[DU] at hg
  rw[show((j+1:Nat):Int)=(j:Int)+1 from by omega,List.append_assoc,<-List.flatMap_cons,<-HY hg,<-Lm] at ih
  rw[<-DU] at hg
  rw[AL];conv=>lhs;whnf
  refine to ?_
  rw[hg]
  refine tq ?_
  rw[Dy _ _ _ AA]
  refine tq ?_
  exact ih
theorem A4i(hl:is.length<=10)(b:List UInt8)(hb:b.length<=40000):
  Y E0 (.loop 180 2 0 2 [(1,.pa 0 0),(3,.nm 1),(49,.sl .i64 is),(50,.i (Ak is)),(51,.i 0)] [(0,some (.var [.i c,.sl .i64 hs,.sl AB az,.sl .i64 is,.sl (.sl .u8) bs])),(1,some (.row 5 .u8 b))])
   = some (.fin (.exit 4) 2 [(1,.pa 0 0),(3,.nm 1)] [(0,some (.var [.i c,.sl .i64 hs,.sl AB az,.sl .i64 is,.sl (.sl .u8) bs])),(1,some (.row 5 .u8 (b++is.flatMap n8)))]):=by
 have h:=o7 c hs az is bs hl is.length 0 b zaa zaa
 rw[AP];rw[List.drop_zero] at h;exact h
theorem o8(bs:List (List UInt8))(hl:bs.length<=10)(hx:∀ x∈bs,x.length<=2000):∀(k j:Nat) (b:List UInt8),j+k=bs.length->b.length+2002*k<=100000 ->
  Y E0 (.loop 180 3 0 1 [(3,.nm 0),(67,.sl (.sl .u8) bs),(68,.i (bs.length:Int)),(69,.i (j:Int))] [(0,some (.row 5 .u8 b))])
   = some (.fin (.exit 6) 1 [(3,.nm 0)] [(0,some (.row 5 .u8 (b++(bs.drop j).flatMap bl)))])
 | 0,j,b,hj,hb=>by
  obtain rfl:j=bs.length:=zaa
  rw[List.drop_length,List.flatMap_nil,List.append_nil]
  rw[AL];conv=>lhs;whnf
  refine tq ?_
  with_reducible rfl
 | k+1,j,b,hj,hb=>by
  obtain⟨x,hm,hg⟩:=EO (l:=bs) (i:=(j:Int)) zaa
  have ho:=hx x hm
  have el:=Ba x
  have ih:=o8 bs hl hx k (j+1) (b++bl x) zaa zaP
  rw[DU] at hg
  rw[show((j+1:Nat):Int)=(j:Int)+1 from by omega,List.append_assoc,<-List.flatMap_cons,<-HY hg,<-GX (show x.length<=65535 by omega)] at ih
  rw[<-DU] at hg
  rw[AL];conv=>lhs;whnf
  refine to ?_
  rw[hg]
  refine tq ?_
  rw[G9 _ _ AA]
  refine tq ?_
  exact ih
theorem A4j(hl:bs.length<=10)(hx:∀ x∈bs,x.length<=2000)(b:List UInt8)(hb:b.length<=70000):
  Y E0 (.loop 180 3 0 1 [(3,.nm 0),(67,.sl (.sl .u8) bs),(68,.i (Ak bs)),(69,.i 0)] [(0,some (.row 5 .u8 b))])
   = some (.fin (.exit 6) 1 [(3,.nm 0)] [(0,some (.row 5 .u8 (b++bs.flatMap bl)))]):=by
 have h:=o8 bs hl hx bs.length 0 b zaa zaa
 rw[AP];rw[List.drop_zero] at h;exact h
theorem ABy:D8 (BF (BF [UInt8.ofNat 83,UInt8.ofNat 87] [UInt8.ofNat 0,UInt8.ofNat 0,DX c]++List.flatMap n2 hs++List.flatMap Jt az++List.flatMap n8 is) [DX (Ak bs)]++List.flatMap bl bs) 2 4 (Bg [] 2 (Ak (BF (BF [UInt8.ofNat 83,UInt8.ofNat 87] [UInt8.ofNat 0,UInt8.ofNat 0,DX c]++List.flatMap n2 hs++List.flatMap Jt az++List.flatMap n8 is) [DX (Ak bs)]++List.flatMap bl bs)))=IY c hs az is bs:=by
 simp only[Ac,AP,Dq,UN,List.nil_append,List.append_assoc,List.cons_append]
 rw[IY,I4]
 simp only[List.append_assoc,List.cons_append,List.nil_append,List.length_cons]
 generalize List.flatMap n2 hs++(List.flatMap Jt az++(List.flatMap n8 is++UInt8.ofInt (bs.length:Int)::List.flatMap bl bs))=B
 rw[sV,lcpv0]
 have h2:=Bh ((B.length+1+1+1+1+1:Nat):Int)
 rw[show(5:Int)+(B.length:Int)=((B.length+1+1+1+1+1:Nat):Int) from by omega]
 generalize n2 ((B.length+1+1+1+1+1:Nat):Int)=N at h2 ⊢
 have hN:N.take 2=N:=List.take_of_length_le zaa
 rw[h2]
 show [_,_]++N.take 2++_::B=_
 rw[hN];simp
theorem A12(hl:hs.length<=10)(hal:az.length<=10)(ham:∀ x∈az,x.2.1.length<=1000/\x.2.2.length<=1000)(hil:is.length<=10)(hbl:bs.length<=10)(hbm:∀ x∈bs,x.length<=2000):Y E0 (.call 180 [rq c hs az is bs] [])=some (.ret (.sl .u8 (IY c hs az is bs)) []):=by
 have hH:(hs.flatMap n2).length<=20:=Nat.le_trans (IK (m:=2) fun x _=>by rw[Bh];decide) zaa
 have hA:(az.flatMap Jt).length<=20060:=Nat.le_trans (IK (m:=2006) fun x hx=>XI x (ham x hx)) zaa
 have hI:(is.flatMap n8).length<=80:=Nat.le_trans (IK (m:=8) fun x _=>by rw[BX];decide) zaa
 have hB:(bs.flatMap bl).length<=20020:=Nat.le_trans (IK (m:=2002) fun x hx=>by have:=hbm x hx;rw[Ba];omega) zaa
 refine tq ?_
 rw[A4f _ _ _ _ _ AA _ AA]
 refine tq ?_
 rw[A4h _ _ _ _ _ AA AA _ AA]
 refine tq ?_
 rw[A4i _ _ _ _ _ AA _ AA]
 refine tq ?_
 rw[A4j _ AA AA _ AA]
 refine tq ?_
 rw[Dy _ _ _ AA]
 refine tq ?_
 (rw[<-ABy])
theorem o9(c:Int)(hs:List Int)(az:List (El AB))(is:List Int)(bs:List (List UInt8))(hl:hs.length<=10)(hx:∀ x∈hs,0<=x/\x<=65535):∀(k j:Nat),j+k=hs.length ->
  Y E0 (.loop 135 0 0 1 [(1,.pa 0 0),(8,.b true),(57,.sl .i64 hs),(58,.i (hs.length:Int)),(59,.i (j:Int))] [(0,some (.var [.i c,.sl .i64 hs,.sl AB az,.sl .i64 is,.sl (.sl .u8) bs]))])=some (.fin (.exit 0) 1 [(1,.pa 0 0),(8,.b true)] [(0,some (.var [.i c,.sl .i64 hs,.sl AB az,.sl .i64 is,.sl (.sl .u8) bs]))])
 | 0,j,hj=>by
  obtain rfl:j=hs.length:=zaa
  rw[AL];conv=>lhs;whnf
  refine tq ?_
  with_reducible rfl
 | k+1,j,hj=>by
  obtain⟨x,hm,hg⟩:=EO (l:=hs) (i:=(j:Int)) zaa
  have ho:=hx x hm
  have ih:=o9 c hs az is bs hl hx k (j+1) zaa
  rw[show((j+1:Nat):Int)=(j:Int)+1 from by omega] at ih
  rw[AL];conv=>lhs;whnf
  refine to ?_
  rw[hg]
  refine tq ?_
  rw[ny _ AA]
  refine tq ?_
  exact ih
theorem A4k(hl:hs.length<=10)(hx:∀ x∈hs,0<=x/\x<=65535):
  Y E0 (.loop 135 0 0 1 [(1,.pa 0 0),(8,.b true),(57,.sl .i64 hs),(58,.i (Ak hs)),(59,.i 0)] [(0,some (.var [.i c,.sl .i64 hs,.sl AB az,.sl .i64 is,.sl (.sl .u8) bs]))])=some (.fin (.exit 0) 1 [(1,.pa 0 0),(8,.b true)] [(0,some (.var [.i c,.sl .i64 hs,.sl AB az,.sl .i64 is,.sl (.sl .u8) bs]))]):=by
 have h:=o9 c hs az is bs hl hx hs.length 0 zaa
 rw[AP];exact h
theorem oC(c:Int)(hs:List Int)(az:List (El AB))(is:List Int)(bs:List (List UInt8))(hl:az.length<=10)(hx:∀ x∈az,0<=x.1/\x.1<=65535):∀(k j:Nat),j+k=az.length ->
  Y E0 (.loop 135 1 0 1 [(1,.pa 0 0),(8,.b true),(70,.sl AB az),(71,.i (az.length:Int)),(72,.i (j:Int))] [(0,some (.var [.i c,.sl .i64 hs,.sl AB az,.sl .i64 is,.sl (.sl .u8) bs]))])=some (.fin (.exit 2) 1 [(1,.pa 0 0),(8,.b true)] [(0,some (.var [.i c,.sl .i64 hs,.sl AB az,.sl .i64 is,.sl (.sl .u8) bs]))])
 | 0,j,hj=>by
  obtain rfl:j=az.length:=zaa
  rw[AL];conv=>lhs;whnf
  refine tq ?_
  with_reducible rfl
 | k+1,j,hj=>by
  obtain⟨x,hm,hg⟩:=EO (l:=az) (i:=(j:Int)) zaa
  have ho:=hx x hm
  have ih:=oC c hs az is bs hl hx k (j+1) zaa
  rw[show((j+1:Nat):Int)=(j:Int)+1 from by omega] at ih
  rw[AL];conv=>lhs;whnf
  refine to ?_
  rw[hg]
  refine tq ?_
  rw[ny _ AA]
  refine tq ?_
  exact ih
theorem A4l(hl:az.length<=10)(hx:∀ x∈az,0<=x.1/\x.1<=65535):
  Y E0 (.loop 135 1 0 1 [(1,.pa 0 0),(8,.b true),(70,.sl AB az),(71,.i (Ak az)),(72,.i 0)] [(0,some (.var [.i c,.sl .i64 hs,.sl AB az,.sl .i64 is,.sl (.sl .u8) bs]))])=some (.fin (.exit 2) 1 [(1,.pa 0 0),(8,.b true)] [(0,some (.var [.i c,.sl .i64 hs,.sl AB az,.sl .i64 is,.sl (.sl .u8) bs]))]):=by
 have h:=oC c hs az is bs hl hx az.length 0 zaa
 rw[AP];exact h
theorem oD(c:Int)(hs:List Int)(az:List (El AB))(is:List Int)(bs:List (List UInt8))(hl:is.length<=10)(hx:∀ x∈is,0<=x/\x<=1099511627776):∀(k j:Nat),j+k=is.length ->
  Y E0 (.loop 135 2 0 1 [(1,.pa 0 0),(8,.b true),(84,.sl .i64 is),(85,.i (is.length:Int)),(86,.i (j:Int))] [(0,some (.var [.i c,.sl .i64 hs,.sl AB az,.sl .i64 is,.sl (.sl .u8) bs]))])=some (.fin (.exit 4) 1 [(1,.pa 0 0),(8,.b true)] [(0,some (.var [.i c,.sl .i64 hs,.sl AB az,.sl .i64 is,.sl (.sl .u8) bs]))])
 | 0,j,hj=>by
  obtain rfl:j=is.length:=zaa
  rw[AL];conv=>lhs;whnf
  refine tq ?_
  with_reducible rfl
 | k+1,j,hj=>by
  obtain⟨x,hm,hg⟩:=EO (l:=is) (i:=(j:Int)) zaa
  have ho:=hx x hm
  have ih:=oD c hs az is bs hl hx k (j+1) zaa
  rw[show((j+1:Nat):Int)=(j:Int)+1 from by omega] at ih
  rw[AL];conv=>lhs;whnf
  refine to ?_
  rw[hg]
  conv=>lhs;whnf
  rw[Fb zaa]
  conv=>lhs;whnf
  try dsimp -iota -beta -eta -zeta only
  rw[Bj zaa]
  rw[Fb (show x<=1099511627776 by omega)];exact ih
theorem A4m(hl:is.length<=10)(hx:∀ x∈is,0<=x/\x<=1099511627776):
  Y E0 (.loop 135 2 0 1 [(1,.pa 0 0),(8,.b true),(84,.sl .i64 is),(85,.i (Ak is)),(86,.i 0)] [(0,some (.var [.i c,.sl .i64 hs,.sl AB az,.sl .i64 is,.sl (.sl .u8) bs]))])=some (.fin (.exit 4) 1 [(1,.pa 0 0),(8,.b true)] [(0,some (.var [.i c,.sl .i64 hs,.sl AB az,.sl .i64 is,.sl (.sl .u8) bs]))]):=by
 have h:=oD c hs az is bs hl hx is.length 0 zaa
 rw[AP];exact h
theorem oG(c:Int)(hs:List Int)(az:List (El AB))(is:List Int)(bs:List (List UInt8))(hl:az.length<=10)(hx:∀ x∈az,x.2.1.length<=128/\x.2.2.length<=128):∀(k j:Nat),j+k=az.length ->
  Y E0 (.loop 135 3 0 1 [(1,.pa 0 0),(8,.b true),(103,.sl AB az),(104,.i (az.length:Int)),(105,.i (j:Int))] [(0,some (.var [.i c,.sl .i64 hs,.sl AB az,.sl .i64 is,.sl (.sl .u8) bs]))])=some (.fin (.exit 6) 1 [(1,.pa 0 0),(8,.b true)] [(0,some (.var [.i c,.sl .i64 hs,.sl AB az,.sl .i64 is,.sl (.sl .u8) bs]))])
 | 0,j,hj=>by
  obtain rfl:j=az.length:=zaa
  rw[AL];conv=>lhs;whnf
  refine tq ?_
  with_reducible rfl
 | k+1,j,hj=>by
  obtain⟨x,hm,hg⟩:=EO (l:=az) (i:=(j:Int)) zaa
  have ho:=hx x hm
  have ih:=oG c hs az is bs hl hx k (j+1) zaa
  rw[show((j+1:Nat):Int)=(j:Int)+1 from by omega] at ih
  rw[AL];conv=>lhs;whnf
  refine to ?_
  rw[hg]
  conv=>lhs;whnf
  rw[Fb zaI]
  conv=>lhs;whnf
  try dsimp -iota -beta -eta -zeta only
  rw[Bj zaa]
  rw[Fb (show Ak x.2.2<=128 by rw[AP];omega)];exact ih
theorem A4n(hl:az.length<=10)(hx:∀ x∈az,x.2.1.length<=128/\x.2.2.length<=128):
  Y E0 (.loop 135 3 0 1 [(1,.pa 0 0),(8,.b true),(103,.sl AB az),(104,.i (Ak az)),(105,.i 0)] [(0,some (.var [.i c,.sl .i64 hs,.sl AB az,.sl .i64 is,.sl (.sl .u8) bs]))])=some (.fin (.exit 6) 1 [(1,.pa 0 0),(8,.b true)] [(0,some (.var [.i c,.sl .i64 hs,.sl AB az,.sl .i64 is,.sl (.sl .u8) bs]))]):=by
 have h:=oG c hs az is bs hl hx az.length 0 zaa
 rw[AP];exact h
theorem oH(c:Int)(hs:List Int)(az:List (El AB))(is:List Int)(bs:List (List UInt8))(hl:bs.length<=10)(hx:∀ x∈bs,x.length<=1024):∀(k j:Nat),j+k=bs.length ->
  Y E0 (.loop 135 4 0 1 [(1,.pa 0 0),(8,.b true),(124,.sl (.sl .u8) bs),(125,.i (bs.length:Int)),(126,.i (j:Int))] [(0,some (.var [.i c,.sl .i64 hs,.sl AB az,.sl .i64 is,.sl (.sl .u8) bs]))])=some (.fin (.exit 8) 1 [(1,.pa 0 0),(8,.b true)] [(0,some (.var [.i c,.sl .i64 hs,.sl AB az,.sl .i64 is,.sl (.sl .u8) bs]))])
 | 0,j,hj=>by
  obtain rfl:j=bs.length:=zaa
  rw[AL];conv=>lhs;whnf
  refine tq ?_
  with_reducible rfl
 | k+1,j,hj=>by
  obtain⟨x,hm,hg⟩:=EO (l:=bs) (i:=(j:Int)) zaa
  have ho:=hx x hm
  have ih:=oH c hs az is bs hl hx k (j+1) zaa
  rw[show((j+1:Nat):Int)=(j:Int)+1 from by omega] at ih
  rw[AL];conv=>lhs;whnf
  refine to ?_
  rw[hg]
  conv=>lhs;whnf
  try dsimp -iota -beta -eta -zeta only
  rw[Bj zaa]
  rw[Fb (show Ak x<=1024 by rw[AP];omega)];exact ih
theorem A4o(hl:bs.length<=10)(hx:∀ x∈bs,x.length<=1024):
  Y E0 (.loop 135 4 0 1 [(1,.pa 0 0),(8,.b true),(124,.sl (.sl .u8) bs),(125,.i (Ak bs)),(126,.i 0)] [(0,some (.var [.i c,.sl .i64 hs,.sl AB az,.sl .i64 is,.sl (.sl .u8) bs]))])=some (.fin (.exit 8) 1 [(1,.pa 0 0),(8,.b true)] [(0,some (.var [.i c,.sl .i64 hs,.sl AB az,.sl .i64 is,.sl (.sl .u8) bs]))]):=by
 have h:=oH c hs az is bs hl hx bs.length 0 zaa
 rw[AP];exact h
theorem A13(nb:Int)(hs:List Int)(az:List (El AB))(is:List Int)(bs:List (List UInt8))(hsh:Y E0 (.call 128 [.i c] [])=some (.ret (.tup [.i (hs.length:Int),.i (az.length:Int),.i (is.length:Int),.i nb,.b true]) []))(hct:Y E0 (.call 133 [.i (bs.length:Int),.i nb] [])=some (.ret (.b true) []))(hl:hs.length<=10)(hal:az.length<=10)(hil:is.length<=10)(hbl:bs.length<=10)(hhm:∀ x∈hs,0<=x/\x<=65535)(ham:∀ x∈az,(0<=x.1/\x.1<=65535)/\x.2.1.length<=128/\x.2.2.length<=128)(him:∀ x∈is,0<=x/\x<=1099511627776)(hbm:∀ x∈bs,x.length<=1024)(hlen:(IY c hs az is bs).length<=2048):Y E0 (.call 135 [rq c hs az is bs] [])=some (.ret (.i 0) []):=by
 have hw:=A12 c hs az is bs hl hal (fun x hx=>by have:=ham x hx;omega) hil hbl (fun x hx=>by have:=hbm x hx;omega)
 have m0:=A4k c hs az is bs hl hhm
 have m1:=A4l c hs az is bs hal (fun x hx=>(ham x hx).1)
 have m2:=A4m c hs az is bs hil him
 have m3:=A4n c hs az is bs hal (fun x hx=>(ham x hx).2)
 have m4:=A4o c hs az is bs hbl hbm
 refine tq ?_
 rw[hsh]
 refine tq ?_
 rw[AP,hct]
 refine tq ?_
 rw[m0]
 refine tq ?_
 rw[m1]
 refine tq ?_
 rw[m2]
 refine tq ?_
 rw[m3]
 refine tq ?_
 rw[m4]
 refine tq ?_
 rw[hw]
 exact tq rfl
end Go.Proofs.YtlpkjhhfhannpaaGreatDoor
