/-
  Own texts, laid together for this claim: contracts of functions of the program and its references, used by the statements of this seat.
-/
import Derived.Test.YtanagnimhaemgaaGreatDoorQtac
import Derived.Test.YtanagnimhaemgaaGreatDoorQtad
set_option linter.all false
set_option maxHeartbeats 40000000
set_option maxRecDepth 100000
namespace Go.Ax
open Go Go.Eng
variable (a0 a1 a2 a3 a4 a5 a6 a7:UInt32)
def Em(ws:List UInt32):Nat->Nat->S5->S5
 | 0,_,s=>s
 | k+1,t,s=>Em ws k (t+1) (Vy t (ws.getD t 0) s)
theorem Ze(ws:List UInt32)(s:S5):∀(k t:Nat),Em ws k t (iI ws s t)=iI ws s (t+k)
 | 0,t=>rfl
 | k+1,t=>by rw[show t+(k+1)=t+1+k from by omega,<-Ze ws s k (t+1)];rfl
theorem A5w(t:Nat)(w a b c d e f q:UInt32)(hf:f=f1 t b c d)(hq:q=k1 t):Vy t w ⟨a,b,c,d,e⟩=⟨xw a 5+f+e+q+w,a,xw b 30,c,d⟩:=by subst hf hq;rfl
theorem A5x(h0 h1 h2 h3 h4:UInt32)(b:List UInt8):Kz [h0,h1,h2,h3,h4] b=[h0+(Em (NU b 80) 80 0 ⟨h0,h1,h2,h3,h4⟩).a,h1+(Em (NU b 80) 80 0 ⟨h0,h1,h2,h3,h4⟩).b,h2+(Em (NU b 80) 80 0 ⟨h0,h1,h2,h3,h4⟩).c,h3+(Em (NU b 80) 80 0 ⟨h0,h1,h2,h3,h4⟩).d,h4+(Em (NU b 80) 80 0 ⟨h0,h1,h2,h3,h4⟩).e]:=by
 rw[show Em (NU b 80) 80 0 ⟨h0,h1,h2,h3,h4⟩=iI (NU b 80) ⟨h0,h1,h2,h3,h4⟩ 80 from Ze _ _ 80 0];rfl
theorem A7J(x:UInt32):[BB (AP x 24),BB (AP x 16),BB (AP x 8),BB x]=wb x:=by
 rw[I7 zad,I7 zad,I7 zad];simp only[bJ];rfl
theorem TY{ws:List UInt32}{j:Nat}(h:j<ws.length):F7 (ws.drop j)=wb (ws.getD j 0)++F7 (ws.drop (j+1)):=by
 rw[List.drop_eq_getElem_cons h];simp only[F7,List.flatMap_cons,List.getD,List.getElem?_eq_getElem h,Option.getD_some]
theorem PI{ws:List UInt32}{j:Nat}(h:j<ws.length):Ai ws (j:Int)=some (ws.getD j 0):=by
 rw[D8 ⟨by omega,by omega⟩];simp[List.getD,h]
theorem jk(n:UInt64)(i:Int)(c:Nat)(h:(c:Int)=i/\c<64):BG (Aa n (BP i).toNat)=(n>>>UInt64.ofNat c).toUInt8:=by
 obtain⟨rfl,h⟩:=h
 rw[TJ,Ip,LP zaa,QE zaa];rfl
theorem Va(n m:UInt64)(c:Nat)(h:m.toNat=c)(hc:c<64):BG (Aa n m.toNat)=(n>>>UInt64.ofNat c).toUInt8:=by
 subst h;rw[TJ,QE hc]
theorem A2p(l:List UInt8):BA .mul (BP (l.length:Int)) (UInt64.ofNat 8)=UInt64.ofInt (l.length:Int)*8:=by rw[EM,Ip];rfl
theorem A9r{l:List UInt32}(h:l.length=5):[l.getD 0 0,l.getD 1 0,l.getD 2 0,l.getD 3 0,l.getD 4 0]=l:=by
 match l,h with
 | [_,_,_,_,_],_=>rfl
theorem A8T{l:List UInt32}(h:l.length=8):[l.getD 0 0,l.getD 1 0,l.getD 2 0,l.getD 3 0,l.getD 4 0,l.getD 5 0,l.getD 6 0,l.getD 7 0]=l:=by
 match l,h with
 | [_,_,_,_,_,_,_,_],_=>rfl
theorem A7K{p:List UInt8}(h:64<=p.length):List.take (Ap p-64).toNat (List.drop (Int.toNat 64) p)=p.drop 64:=by
 rw[AC];exact List.take_of_length_le zaI
theorem H6:Iz.length=64:=rfl
theorem A9s:Ai [a0,a1,a2,a3,a4,a5,a6,a7] 0=some a0:=Ku zad rfl
theorem A2s:Ai [a0,a1,a2,a3,a4,a5,a6,a7] 1=some a1:=Ku zad rfl
theorem A2t:Ai [a0,a1,a2,a3,a4,a5,a6,a7] 2=some a2:=Ku zad rfl
theorem A9t:Ai [a0,a1,a2,a3,a4,a5,a6,a7] 3=some a3:=Ku zad rfl
theorem A9u:Ai [a0,a1,a2,a3,a4,a5,a6,a7] 4=some a4:=Ku zad rfl
theorem A7M:Ai [a0,a1,a2,a3,a4,a5,a6,a7] 5=some a5:=Ku zad rfl
theorem A7N:Ai [a0,a1,a2,a3,a4,a5,a6,a7] 6=some a6:=Ku zad rfl
theorem A9v:Ai [a0,a1,a2,a3,a4,a5,a6,a7] 7=some a7:=Ku zad rfl
end Go.Ax
namespace Go.Proofs.YtanagnimhaemgaaGreatDoor
open Go Go.Ax Go.Eng
variable (h:List UInt32)(l b p:List UInt8)(ws:List UInt32)(h0 h1 h2 h3 h4:UInt32)
section
attribute [local irreducible] Bl CQ CS Bo Bg Ar CU Dw EN Dy EC Bf BU Bv Bz and' C9 CB BK Au BA BL BN Aa Ad AP AZ CV Dq CW DI CE BP BM BF BG BB AU BC Ae Ap Ai CX BH Bh Ba BO CG CY CJ fits CZ CO A8 AA Ac
attribute [local irreducible] Fa
theorem Jh(t:Nat)(hs:ws.take t=NU b t)(h:16<=t):
  xw (Au .xor (Au .xor (Au .xor (ws.getD (0+((t:Int)-3).toNat*1) 0) (ws.getD (0+((t:Int)-8).toNat*1) 0)) (ws.getD (0+((t:Int)-14).toNat*1) 0)) (ws.getD (0+((t:Int)-16).toNat*1) 0)) 1=iG b (NU b t) t:=by
 rw[show 0+((t:Int)-3).toNat*1=t-3 from by omega,show 0+((t:Int)-8).toNat*1=t-8 from by omega,show 0+((t:Int)-14).toNat*1=t-14 from by omega,show 0+((t:Int)-16).toNat*1=t-16 from by omega]
 rw[iG,if_neg zaa,MZ hs (show t-3<t by omega),MZ hs (show t-8<t by omega),MZ hs (show t-14<t by omega),MZ hs (show t-16<t by omega)]
 simp only[JO]
theorem A7H(b:List UInt8)(h0 h1 h2 h3 h4:UInt32)(hb:b.length=64):∀(k t:Nat) (ws:List UInt32),t+k=80->ws.length=80->ws.take t=NU b t ->
  Y E0 (.loop 213 0 1 2 [(0,AV.pa 0 0),(1,AV.sl Ty.u8 b),(4,AV.pa 1 0),(14,AV.i t)] [(0,some (.var [.u32 h0,.u32 h1,.u32 h2,.u32 h3,.u32 h4])),(1,some (Rs.var (Fa ws)))])=some (.fin (.exit 0) 2 [(0,AV.pa 0 0),(4,AV.pa 1 0)] [(0,some (.var [.u32 h0,.u32 h1,.u32 h2,.u32 h3,.u32 h4])),(1,some (Rs.var (Fa (NU b 80))))])
 | 0,t,ws,hk,hw,hs=>by
  have e:ws=NU b 80:=by rw[<-show t=80 from by omega,<-hs,List.take_of_length_le zaa]
  rw[<-e]
  rw[AO];conv=>lhs;whnf
  rw[A2I hw (show 80<=t by omega)]
  refine BX ?_
  rfl
 | k+1,t,ws,hk,hw,hs=>by
  have ih:=fun x (hx:x=iG b (NU b t) t)=>A7H b h0 h1 h2 h3 h4 hb k (t+1) (ws.set t x) zaa (by simpa using hw) (by rw[Xn hs zaa,hx];rfl)
  rw[AO];conv=>lhs;whnf
  refine BX ?_
  rcases D7 (↑t) 16 with hc0|hc0
  ·
   refine BX ?_
   rw[wG _ _ Cc Cc]
   conv=>lhs;whnf
   try dsimp -iota -beta -eta -zeta only
   rw[Fg zaa]
   conv=>lhs;whnf
   rw[Dp zaa]
   conv=>lhs;whnf
   try dsimp -iota -beta -eta -zeta only
   rw[LZ zaa];conv=>lhs;whnf
   rw[Nr zaa]
   refine BX ?_
   rw[Kw hw]
   refine BX ?_
   rw[show((t:Int)+1)=((t+1:Nat):Int) from by omega,show 0+((t:Nat):Int).toNat*1=t from by omega];refine(congrArg (Y E0) ?_).trans (ih (be32 b (4*t)) (by rw[iG,if_pos zaa]));rw[Kw hw];rfl
  refine BX ?_
  rw[EK zaa]
  refine BX ?_
  rw[EK zaa]
  refine BX ?_
  rw[EK zaa]
  refine BX ?_
  rw[EK zaa]
  refine BX ?_
  rw[A5l _]
  conv=>lhs;whnf
  try dsimp -iota -beta -eta -zeta only
  rw[Fg zaa]
  conv=>lhs;whnf
  rw[Dp zaa]
  conv=>lhs;whnf
  try dsimp -iota -beta -eta -zeta only
  rw[LZ zaa];conv=>lhs;whnf
  rw[Nr zaa]
  conv=>lhs;whnf
  try dsimp -iota -beta -eta -zeta only
  rw[Kw hw]
  refine BX ?_
  rw[show((t:Int)+1)=((t+1:Nat):Int) from by omega,show 0+((t:Nat):Int).toNat*1=t from by omega];refine(congrArg (Y E0) ?_).trans (ih _ (Jh b ws t hs zaa));rw[Kw hw];rfl
theorem A8R(hb:b.length=64):Y E0 (.loop 213 0 1 2 [(0,AV.pa 0 0),(1,AV.sl Ty.u8 b),(4,AV.pa 1 0),(14,AV.i 0)] [(0,some (.var [.u32 h0,.u32 h1,.u32 h2,.u32 h3,.u32 h4])),(1,some (Rs.var (List.replicate 80 (.u32 0))))])=some (.fin (.exit 0) 2 [(0,AV.pa 0 0),(4,AV.pa 1 0)] [(0,some (.var [.u32 h0,.u32 h1,.u32 h2,.u32 h3,.u32 h4])),(1,some (Rs.var (Fa (NU b 80))))]):=by
 have e:=A7H b h0 h1 h2 h3 h4 hb 80 0 (List.replicate 80 0) rfl rfl rfl
 rw[Dl (ws:=List.replicate 80 0) (n:=80) rfl] at e
 exact e
end
section
attribute [local irreducible] Bl CQ CS Bo Bg Ar CU Dw EN Dy EC Bf BU Bv Bz and' C9 CB BK Au BA BL BN Aa Ad AP AZ CV Dq CW DI CE BP BM BF BG BB AU BC Ae Ap Ai CX BH Bh Ba BO CG CY CJ fits CZ CO A8 AA Ac
attribute [local irreducible] Fa Em Vy
theorem A9p(hw:ws.length=80)(h0 h1 h2 h3 h4:UInt32){G:S5->Option Rsp}(t:Nat)(a b c d e f q:UInt32)(ht:t<80)(hr:∀ s:S5,Y E0 (.loop 213 1 1 2 [(0,.pa 0 0),(4,.pa 1 0),(6,.u32 s.a),(7,.u32 s.b),(8,.u32 s.c),(9,.u32 s.d),(10,.u32 s.e),(67,.i (t+1:Nat))] [(0,some (.var [.u32 h0,.u32 h1,.u32 h2,.u32 h3,.u32 h4])),(1,some (.var (Fa ws)))])=G s)(hf:f=f1 t b c d)(hq:q=k1 t):Y E0 (.drw ⟨165,213,1⟩ [true,true,true,false,true,false,false,true,true,false,false,true,true,true] 0 [] [.blk 3,.seq [true,true,true,false,true,false,false,true,true,true] 2,.lup 1] 2 [(0,.pa 0 0),(4,.pa 1 0),(6,.u32 a),(7,.u32 b),(8,.u32 c),(9,.u32 d),(10,.u32 e),(11,.i t),(12,.u32 f),(13,.u32 q),(67,.i t)] [(0,some (.var [.u32 h0,.u32 h1,.u32 h2,.u32 h3,.u32 h4])),(1,some (.var (Fa ws)))])=G (Vy t (ws.getD t 0) ⟨a,b,c,d,e⟩):=by
 rw[A5w t _ a b c d e f q hf hq]
 rw[AO];conv=>lhs;whnf
 refine BX ?_
 rw[A5m _]
 refine BX ?_
 rw[EK zaa]
 refine BX ?_
 rw[A2i _]
 refine BX ?_
 ((conv in(close _ _ _ _)=>skip);rw[Dl hw])
 refine BX ?_
 rw[show((t:Int)+1)=((t+1:Nat):Int) from by omega];simp only[Jz,show 0+(t:Int).toNat*1=t from by omega];exact(congrArg (Y E0) zbh).trans (hr ⟨_,_,_,_,_⟩)
theorem A7I(ws:List UInt32)(hw:ws.length=80)(h0 h1 h2 h3 h4:UInt32):∀(k t:Nat) (s:S5),t+k=80->Y E0 (.loop 213 1 1 2 [(0,.pa 0 0),(4,.pa 1 0),(6,.u32 s.a),(7,.u32 s.b),(8,.u32 s.c),(9,.u32 s.d),(10,.u32 s.e),(67,.i t)] [(0,some (.var [.u32 h0,.u32 h1,.u32 h2,.u32 h3,.u32 h4])),(1,some (.var (Fa ws)))])=some (.fin (.exit 2) 1 [(0,.pa 0 0),(6,.u32 (Em ws k t s).a),(7,.u32 (Em ws k t s).b),(8,.u32 (Em ws k t s).c),(9,.u32 (Em ws k t s).d),(10,.u32 (Em ws k t s).e)] [(0,some (.var [.u32 h0,.u32 h1,.u32 h2,.u32 h3,.u32 h4]))])
 | 0,t,s,hk=>by
  rw[AO];conv=>lhs;whnf
  refine BX ?_
  unfold Em;rfl
 | k+1,t,⟨a,b,c,d,e⟩,hk=>by
  have ih:=fun f q=>A9p ws hw h0 h1 h2 h3 h4 t a b c d e f q zaa (fun s=>A7I ws hw h0 h1 h2 h3 h4 k (t+1) s zaa)
  rw[show Em ws (k+1) t ⟨a,b,c,d,e⟩=Em ws k (t+1) (Vy t (ws.getD t 0) ⟨a,b,c,d,e⟩) from by rw[Em]]
  rw[AO];conv=>lhs;whnf
  refine BX ?_
  rcases FK (↑t/20) 0 with hc0|hc0
  ·
   refine BX ?_
   ((conv in(close _ _ _ _)=>skip);rw[Dl hw])
   conv=>lhs;whnf
   exact(congrArg (Y E0) zbh).trans (ih _ _ zan zal)
  refine BX ?_
  rcases FK (↑t/20) 1 with hc1|hc1
  ·
   refine BX ?_
   ((conv in(close _ _ _ _)=>skip);rw[Dl hw])
   conv=>lhs;whnf
   exact(congrArg (Y E0) zbh).trans (ih _ _ zan zal)
  refine BX ?_
  rcases FK (↑t/20) 2 with hc2|hc2
  ·
   refine BX ?_
   ((conv in(close _ _ _ _)=>skip);rw[Dl hw])
   conv=>lhs;whnf
   exact(congrArg (Y E0) zbh).trans (ih _ _ zan zal)
  refine BX ?_
  ((conv in(close _ _ _ _)=>skip);rw[Dl hw])
  conv=>lhs;whnf
  exact(congrArg (Y E0) zbh).trans (ih _ _ zan zal)
end
section
attribute [local irreducible] Bl CQ CS Bo Bg Ar CU Dw EN Dy EC Bf BU Bv Bz and' C9 CB BK Au BA BL BN Aa Ad AP AZ CV Dq CW DI CE BP BM BF BG BB AU BC Ae Ap Ai CX BH Bh Ba BO CG CY CJ fits CZ CO A8 AA Ac
attribute [local irreducible] Fa Em Vy
theorem A8S(hw:ws.length=80)(h0 h1 h2 h3 h4:UInt32):Y E0 (.loop 213 1 1 2 [(0,.pa 0 0),(4,.pa 1 0),(6,.u32 h0),(7,.u32 h1),(8,.u32 h2),(9,.u32 h3),(10,.u32 h4),(67,.i 0)] [(0,some (.var [.u32 h0,.u32 h1,.u32 h2,.u32 h3,.u32 h4])),(1,some (.var ((List.range 80).map fun i=>.u32 (ws.getD i 0))))])=some (.fin (.exit 2) 1 [(0,.pa 0 0),(6,.u32 (Em ws 80 0 ⟨h0,h1,h2,h3,h4⟩).a),(7,.u32 (Em ws 80 0 ⟨h0,h1,h2,h3,h4⟩).b),(8,.u32 (Em ws 80 0 ⟨h0,h1,h2,h3,h4⟩).c),(9,.u32 (Em ws 80 0 ⟨h0,h1,h2,h3,h4⟩).d),(10,.u32 (Em ws 80 0 ⟨h0,h1,h2,h3,h4⟩).e)] [(0,some (.var [.u32 h0,.u32 h1,.u32 h2,.u32 h3,.u32 h4]))]):=by
 have e:=A7I ws hw h0 h1 h2 h3 h4 80 0 ⟨h0,h1,h2,h3,h4⟩ rfl
 rw[Dl hw] at e
 exact e
theorem A9q(hb:b.length=64):Y E0 (.call 213 [.pa 0 0,.sl .u8 b] [.var [.u32 h0,.u32 h1,.u32 h2,.u32 h3,.u32 h4]])=some (.ret (.tup []) [some (.var ((List.range 5).map fun i=>.u32 ((Kz [h0,h1,h2,h3,h4] b).getD i 0)))]):=by
 rw[A5x]
 refine BX ?_
 (erw[A8R b _ _ _ _ _ hb])
 refine BX ?_
 ((conv in(close _ _ _ _)=>skip);rw[Dl (iH b 80)])
 refine BX ?_
 (erw[A8S (NU b 80) (iH b 80)])
 refine BX ?_
 simp only[Jz];rfl
end
section
attribute [local irreducible] Bl CQ CS Bo Bg Ar CU Dw EN Dy EC Bf BU Bv Bz and' C9 CB BK Au BA BL BN Aa Ad AP AZ CV Dq CW DI CE BP BM BF BG BB AU BC Ae Ap Ai CX BH Bh Ba BO CG CY CJ fits CZ CO A8 AA Ac
attribute [local irreducible] wb F7
theorem VZ(ws:List UInt32)(h:ws.length<=1000):∀(k j:Nat) (acc:List UInt8),j+k=ws.length->acc.length<=4*j->Y E0 (.loop 214 0 0 1 [(3,.nm 0),(10,.sl .u32 ws),(11,.i (Ap ws)),(12,.i j)] [(0,some (.row 5 .u8 acc))])=some (.fin (.exit 0) 0 [(3,.sl .u8 (acc++F7 (ws.drop j)))] [])
 | 0,j,acc,hj,ha=>by
  rw[AO];conv=>lhs;whnf
  refine BX ?_
  rw[List.drop_of_length_le zaa];unfold F7;simp
 | k+1,j,acc,hj,ha=>by
  have ih:=VZ ws h k (j+1) (BO acc (wb (ws.getD j 0))) zaa (by rw[Am,List.length_append];unfold wb;simp;omega)
  rw[AO];conv=>lhs;whnf
  refine toA ?_
  rw[PI zaa]
  refine BX ?_
  refine(congrArg (Y E0) za2).trans (ih.trans (by rw[TY (j:=j) zaa,Am,List.append_assoc]))
theorem Zf(h:ws.length<=1000)(h0:0<ws.length):Y E0 (.call 214 [.sl .u32 ws] [])=some (.ret (.sl .u8 (F7 ws)) []):=by
 have e:=VZ ws h ws.length 0 [] zaa zak
 refine BX ?_
 (erw[e])
 refine BX ?_
 rfl
theorem Xp(ws:List UInt32)(h:ws.length<=1000):∀(k j:Nat) (acc:List UInt8),j+k=ws.length->acc.length<=4*j->Y E0 (.loop 59 0 0 1 [(0,.sl .u32 ws),(3,.nm 0),(4,.i j)] [(0,some (.row 5 .u8 acc))])=some (.fin (.exit 0) 0 [(3,.sl .u8 (acc++F7 (ws.drop j)))] [])
 | 0,j,acc,hj,ha=>by
  rw[AO];conv=>lhs;whnf
  refine BX ?_
  rw[List.drop_of_length_le zaa];unfold F7;simp
 | k+1,j,acc,hj,ha=>by
  have ih:=Xp ws h k (j+1) (BO acc (wb (ws.getD j 0))) zaa (by rw[Am,List.length_append];unfold wb;simp;omega)
  rw[AO];conv=>lhs;whnf
  refine toA ?_
  rw[PI zaa]
  refine toA ?_
  rw[PI zaa]
  refine toA ?_
  rw[PI zaa]
  refine toA ?_
  rw[PI zaa]
  refine BX ?_
  refine(congrArg (Y E0) za2).trans (ih.trans (by rw[TY (j:=j) zaa,Am,List.append_assoc]))
theorem A2o(h:ws.length<=1000):Y E0 (.call 59 [.sl .u32 ws] [])=some (.ret (.sl .u8 (F7 ws)) []):=by
 have e:=Xp ws h ws.length 0 [] zaa zak
 refine BX ?_
 (erw[e])
 refine BX ?_
 rfl
end
section
attribute [local irreducible] Bl CQ CS Bo Bg Ar CU Dw EN Dy EC Bf BU Bv Bz and' C9 CB BK Au BA BL BN Aa Ad AP AZ CV Dq CW DI CE BP BM BF BG BB AU BC Ae Ap Ai CX BH Bh Ba BO CG CY CJ fits CZ CO A8 AA Ac
theorem jm(l:List UInt8):∀(k:Nat) (x:List UInt8),k<64->(x.length+k)%64=56->x.length+k<=8589934592->Y E0 (.loop 212 0 0 1 [(0,.sl .u8 l),(3,.nm 0)] [(0,some (.row 5 .u8 x))])=some (.fin (.exit 0) 1 [(0,.sl .u8 l),(3,.nm 0)] [(0,some (.row 5 .u8 (x++List.replicate k 0)))])
 | 0,x,h,hm,hx=>by
  rw[AO];conv=>lhs;whnf
  refine BX ?_
  simp
 | k+1,x,h,hm,hx=>by
  have ih:=jm l k (BO x [UInt8.ofNat 0]) zaa (by rw[Am,List.length_append,<-hm];simp;omega) (by rw[Am,List.length_append];simp;omega)
  rw[AO];conv=>lhs;whnf
  refine BX ?_
  exact ih.trans (by rw[Am,List.append_assoc];rfl)
theorem A2q(x:List UInt8)(n:UInt64)(hx:x.length<=8589934592):Y E0 (.loop 212 1 0 1 [(3,.nm 0),(4,.u64 n),(5,.i 56)] [(0,some (.row 5 .u8 x))])=some (.fin (.exit 2) 0 [(3,.sl .u8 (x++oZ n))] []):=by
 refine BX ?_
 refine BX ?_
 refine BX ?_
 refine BX ?_
 refine BX ?_
 refine BX ?_
 refine BX ?_
 refine BX ?_
 refine BX ?_
 rw[jk n _ 56 zaa,jk n _ 48 zaa,jk n _ 40 zaa,jk n _ 32 zaa,jk n _ 24 zaa,jk n _ 16 zaa,jk n _ 8 zaa,jk n _ 0 zaa];simp only[Am,List.append_assoc];rfl
theorem A2r(h:l.length<=4294967296):Y E0 (.call 212 [.sl .u8 l] [])=some (.ret (.sl .u8 (KP l)) []):=by
 have e:=jm l (zerosN l.length) (BO (BO [] l) [UInt8.ofNat 128]) (by unfold zerosN;omega) zaJ zaJ
 have f:=fun n=>A2q (BO (BO [] l) [UInt8.ofNat 128]++List.replicate (zerosN l.length) 0) n zaJ
 refine BX ?_
 rw[e]
 refine BX ?_
 (rw[f])
 refine BX ?_
 simp only[Am,AC,A2p,KP];rfl
theorem Zg(l:List UInt8):∀(k:Nat) (x:List UInt8),k<64->(x.length+k)%64=56->x.length+k<=8589934592->Y E0 (.loop 56 0 0 1 [(0,.sl .u8 l),(3,.nm 0)] [(0,some (.row 5 .u8 x))])=some (.fin (.exit 0) 1 [(0,.sl .u8 l),(3,.nm 0)] [(0,some (.row 5 .u8 (x++List.replicate k 0)))])
 | 0,x,h,hm,hx=>by
  rw[AO];conv=>lhs;whnf
  refine BX ?_
  simp
 | k+1,x,h,hm,hx=>by
  have ih:=Zg l k (BO x [UInt8.ofNat 0]) zaa (by rw[Am,List.length_append,<-hm];simp;omega) (by rw[Am,List.length_append];simp;omega)
  rw[AO];conv=>lhs;whnf
  refine BX ?_
  exact ih.trans (by rw[Am,List.append_assoc];rfl)
theorem zB(x:List UInt8)(n:UInt64)(hx:x.length<=8589934592):Y E0 (.loop 56 1 0 1 [(3,.nm 0),(4,.u64 n),(5,.i 7)] [(0,some (.row 5 .u8 x))])=some (.fin (.exit 2) 0 [(3,.sl .u8 (x++oZ n))] []):=by
 refine BX ?_
 refine BX ?_
 refine BX ?_
 refine BX ?_
 refine BX ?_
 refine BX ?_
 refine BX ?_
 refine BX ?_
 refine BX ?_
 rw[Va n _ 56 za6 zad,Va n _ 48 za6 zad,Va n _ 40 za6 zad,Va n _ 32 za6 zad,Va n _ 24 za6 zad,Va n _ 16 za6 zad,Va n _ 8 za6 zad,Va n _ 0 za6 zad];simp only[Am,List.append_assoc];rfl
theorem A5y(h:l.length<=4294967296):Y E0 (.call 56 [.sl .u8 l] [])=some (.ret (.sl .u8 (KP l)) []):=by
 have e:=Zg l (zerosN l.length) (BO (BO [] l) [UInt8.ofNat 128]) (by unfold zerosN;omega) zaJ zaJ
 have f:=fun n=>zB (BO (BO [] l) [UInt8.ofNat 128]++List.replicate (zerosN l.length) 0) n zaJ
 refine BX ?_
 rw[e]
 refine BX ?_
 (rw[f])
 refine BX ?_
 simp only[Am,AC,A2p,KP];rfl
end
section
attribute [local irreducible] Bl CQ CS Bo Bg Ar CU Dw EN Dy EC Bf BU Bv Bz and' C9 CB BK Au BA BL BN Aa Ad AP AZ CV Dq CW DI CE BP BM BF BG BB AU BC Ae Ap Ai CX BH Bh Ba BO CG CY CJ fits CZ CO A8 AA Ac
attribute [local irreducible] Kz EG GK
theorem Zh:∀(n:Nat) (p:List UInt8) (h0 h1 h2 h3 h4:UInt32),p.length=64*n->p.length<=8589934592->Y E0 (.loop 176 0 0 1 [(5,.pa 0 0),(6,.sl .u8 p)] [(0,some (.var [.u32 h0,.u32 h1,.u32 h2,.u32 h3,.u32 h4]))])=some (.fin (.exit 1) 1 [(5,.pa 0 0)] [(0,some (.var ((List.range 5).map fun i=>.u32 ((GK Kz n [h0,h1,h2,h3,h4] p).getD i 0))))])
 | 0,p,h0,h1,h2,h3,h4,hp,hq=>by
  rw[AO];conv=>lhs;whnf
  refine BX ?_
  unfold GK;rfl
 | n+1,p,h0,h1,h2,h3,h4,hp,hq=>by
  have ih:=Zh n (p.drop 64) ((Kz [h0,h1,h2,h3,h4] (p.take 64)).getD 0 0) ((Kz [h0,h1,h2,h3,h4] (p.take 64)).getD 1 0) ((Kz [h0,h1,h2,h3,h4] (p.take 64)).getD 2 0) ((Kz [h0,h1,h2,h3,h4] (p.take 64)).getD 3 0) ((Kz [h0,h1,h2,h3,h4] (p.take 64)).getD 4 0) zaI zaI
  rw[A9r (UK _ _)] at ih
  rw[AO];conv=>lhs;whnf
  refine BX ?_
  rw[A9q (hb:=Cc) ..]
  refine BX ?_
  rw[A7K zaa];exact ih.trans (by rw[GK])
theorem Zi:∀(n:Nat) (p:List UInt8) (h0 h1 h2 h3 h4 h5 h6 h7:UInt32),p.length=64*n->p.length<=8589934592->Y E0 (.loop 176 1 0 1 [(7,.pa 0 0),(8,.sl .u8 p)] [(0,some (.var [.u32 h0,.u32 h1,.u32 h2,.u32 h3,.u32 h4,.u32 h5,.u32 h6,.u32 h7]))])=some (.fin (.exit 3) 1 [(7,.pa 0 0)] [(0,some (.var ((List.range 8).map fun i=>.u32 ((GK EG n [h0,h1,h2,h3,h4,h5,h6,h7] p).getD i 0))))])
 | 0,p,h0,h1,h2,h3,h4,h5,h6,h7,hp,hq=>by
  rw[AO];conv=>lhs;whnf
  refine BX ?_
  unfold GK;rfl
 | n+1,p,h0,h1,h2,h3,h4,h5,h6,h7,hp,hq=>by
  have ih:=Zi n (p.drop 64) ((EG [h0,h1,h2,h3,h4,h5,h6,h7] (p.take 64)).getD 0 0) ((EG [h0,h1,h2,h3,h4,h5,h6,h7] (p.take 64)).getD 1 0) ((EG [h0,h1,h2,h3,h4,h5,h6,h7] (p.take 64)).getD 2 0) ((EG [h0,h1,h2,h3,h4,h5,h6,h7] (p.take 64)).getD 3 0) ((EG [h0,h1,h2,h3,h4,h5,h6,h7] (p.take 64)).getD 4 0) ((EG [h0,h1,h2,h3,h4,h5,h6,h7] (p.take 64)).getD 5 0) ((EG [h0,h1,h2,h3,h4,h5,h6,h7] (p.take 64)).getD 6 0) ((EG [h0,h1,h2,h3,h4,h5,h6,h7] (p.take 64)).getD 7 0) zaI zaI
  rw[A8T (KQ _ _ rfl)] at ih
  rw[AO];conv=>lhs;whnf
  refine BX ?_
  rw[A5v (hb:=Cc) ..]
  refine BX ?_
  rw[A7K zaa];exact ih.trans (by rw[GK])
theorem zC(alg:Int)(l:List UInt8)(hl:l.length<=4294967296):Y E0 (.call 176 [.i alg,.sl .u8 l] [])=some (.ret (.sl .u8 (A9K alg l)) []):=by
 have hp:=SA l
 have e0:=Zh ((KP l).length/64) (KP l) 1732584193 4023233417 2562383102 271733878 3285377520 zaa zaa
 have e1:=Zi ((KP l).length/64) (KP l) 1779033703 3144134277 1013904242 2773480762 1359893119 2600822924 528734635 1541459225 zaa zaa
 refine BX ?_
 rcases FK alg 0 with hc0|hc0
 ·
  subst hc0
  refine BX ?_
  rw[A2r _ Cc]
  refine BX ?_
  (erw[e0])
  refine BX ?_
  rw[Zf _ Cc Cc]
  refine BX ?_
  rw[A9r (Lh (m:=5) (fun h b _=>UK h b) _ _ _ rfl)];rfl
 refine BX ?_
 rcases FK alg 1 with hc1|hc1
 ·
  subst hc1
  refine BX ?_
  rw[A2r _ Cc]
  refine BX ?_
  (erw[e1])
  refine BX ?_
  rw[Zf _ Cc Cc]
  refine BX ?_
  rw[A8T (Lh (m:=8) KQ _ _ _ rfl)];rfl
 refine BX ?_
 rw[A9K,if_neg hc0,if_neg hc1]
end
section
attribute [local irreducible] Bl CQ CS Bo Bg Ar CU Dw EN Dy EC Bf BU Bv Bz and' C9 CB BK Au BA BL BN Aa Ad AP AZ CV Dq CW DI CE BP BM BF BG BB AU BC Ae Ap Ai CX BH Bh Ba BO CG CY CJ fits CZ CO A8 AA Ac
attribute [local irreducible] Kz EG GK Fa Iz Hu Em Vy
theorem A7L(h:List UInt32)(p b:List UInt8)(a:Nat)(ha:a+64<=p.length)(hp:p.length<=8589934592)(hb:b=List.take ((a:Int)+64-a).toNat (List.drop (a:Int).toNat p)):∀(k t:Nat) (ws:List UInt32),t+k=64->ws.length=64->ws.take t=Dc b t->Y E0 (.loop 29 1 0 3 [(3,.pa 0 0),(4,.nm 1),(5,.sl .u8 p),(6,.i a),(7,.pa 2 0),(8,.i t)] [(0,some (.var (Fa Iz))),(1,some (.row 128 .u32 h)),(2,some (.var (Fa ws)))])=some (.fin (.exit 2) 3 [(3,.pa 0 0),(4,.nm 1),(5,.sl .u8 p),(6,.i a),(7,.pa 2 0)] [(0,some (.var (Fa Iz))),(1,some (.row 128 .u32 h)),(2,some (.var (Fa (Dc b 64))))])
 | 0,t,ws,hk,hw,hs=>by
  have e:ws=Dc b 64:=za4
  rw[<-e]
  rw[AO];conv=>lhs;whnf
  refine BX ?_
  ((conv in(close _ _ _ _)=>skip);conv=>lhs;rw[Dl H6,Dl hw])
  refine BX ?_
  rw[Dl hw,Dl H6];rfl
 | k+1,t,ws,hk,hw,hs=>by
  have ih:=fun x (hx:x=KH b (Dc b t) t)=>A7L h p b a ha hp hb k (t+1) (ws.set t x) zaa (by simpa using hw) (by rw[Xn hs zaa,hx];rfl)
  rw[AO];conv=>lhs;whnf
  refine BX ?_
  rcases D7 (↑t) 16 with hc0|hc0
  ·
   refine BX ?_
   rw[A2j _ _ Cc Cc]
   conv=>lhs;whnf
   try dsimp -iota -beta -eta -zeta only
   rw[Fg zaa]
   conv=>lhs;whnf
   rw[Dp zaa]
   conv=>lhs;whnf
   try dsimp -iota -beta -eta -zeta only
   rw[LZ zaa];conv=>lhs;whnf
   rw[Nr zaa]
   refine BX ?_
   ((conv in(close _ _ _ _)=>skip);conv=>lhs;rw[Dl H6,Kw hw])
   refine BX ?_
   rw[show((t:Int)+1)=((t+1:Nat):Int) from by omega,show 0+((t:Nat):Int).toNat*1=t from by omega,<-hb];refine(congrArg (Y E0) ?_).trans (ih (be32 b (4*t)) (by rw[KH,if_pos zaa]));rw[Kw hw,Dl H6];rfl
  refine BX ?_
  rw[EK zaa]
  refine BX ?_
  rw[A8O _]
  refine BX ?_
  rw[EK zaa]
  refine BX ?_
  rw[A5n _]
  refine BX ?_
  rw[EK zaa]
  refine BX ?_
  rw[EK zaa]
  refine BX ?_
  rw[A5o _]
  refine BX ?_
  rw[EK zaa]
  refine BX ?_
  rw[A5p _]
  refine BX ?_
  rw[EK zaa]
  refine BX ?_
  rw[EK zaa]
  refine BX ?_
  rw[EK zaa]
  conv=>lhs;whnf
  try dsimp -iota -beta -eta -zeta only
  rw[Fg zaa]
  conv=>lhs;whnf
  rw[Dp zaa]
  conv=>lhs;whnf
  try dsimp -iota -beta -eta -zeta only
  rw[LZ zaa];conv=>lhs;whnf
  rw[Nr zaa]
  refine BX ?_
  ((conv in(close _ _ _ _)=>skip);conv=>lhs;rw[Dl H6,Kw hw])
  refine BX ?_
  rw[show((t:Int)+1)=((t+1:Nat):Int) from by omega,show 0+((t:Nat):Int).toNat*1=t from by omega];refine(congrArg (Y E0) ?_).trans (ih _ (A7G b ws t hs zaa));rw[Kw hw,Dl H6];rfl
end
section
attribute [local irreducible] Bl CQ CS Bo Bg Ar CU Dw EN Dy EC Bf BU Bv Bz and' C9 CB BK Au BA BL BN Aa Ad AP AZ CV Dq CW DI CE BP BM BF BG BB AU BC Ae Ap Ai CX BH Bh Ba BO CG CY CJ fits CZ CO A8 AA Ac
attribute [local irreducible] Kz EG GK Fa Iz Hu Em Vy
theorem A8U(b:List UInt8)(a:Nat)(ha:a+64<=p.length)(hp:p.length<=8589934592)(hb:b=List.take ((a:Int)+64-a).toNat (List.drop (a:Int).toNat p)):Y E0 (.loop 29 1 0 3 [(3,.pa 0 0),(4,.nm 1),(5,.sl .u8 p),(6,.i a),(7,.pa 2 0),(8,.i 0)] [(0,some (.var ((List.range 64).map fun i=>AV.u32 (Iz.getD i 0)))),(1,some (.row 128 .u32 h)),(2,some (.var (List.replicate 64 (.u32 0))))])=some (.fin (.exit 2) 3 [(3,.pa 0 0),(4,.nm 1),(5,.sl .u8 p),(6,.i a),(7,.pa 2 0)] [(0,some (.var ((List.range 64).map fun i=>AV.u32 (Iz.getD i 0)))),(1,some (.row 128 .u32 h)),(2,some (.var ((List.range 64).map fun i=>AV.u32 ((Dc b 64).getD i 0))))]):=by
 have e:=A7L h p b a ha hp hb 64 0 (List.replicate 64 0) rfl rfl rfl
 rw[Dl (ws:=List.replicate 64 0) (n:=64) rfl,Dl H6,Dl (JD b 64)] at e
 exact e
theorem A7O(h:List UInt32)(p:List UInt8)(a:Nat)(ws:List UInt32)(hw:ws.length=64):∀(k t:Nat) (a0 a1 a2 a3 a4 a5 a6 a7:UInt32),t+k=64->Y E0 (.loop 29 2 0 3 [(3,.pa 0 0),(4,.nm 1),(5,.sl .u8 p),(6,.i a),(7,.pa 2 0),(11,.sl .u32 [a0,a1,a2,a3,a4,a5,a6,a7]),(12,.i t)] [(0,some (.var (Fa Iz))),(1,some (.row 128 .u32 h)),(2,some (.var (Fa ws)))])=some (.fin (.exit 4) 2 [(3,.pa 0 0),(4,.nm 1),(5,.sl .u8 p),(6,.i a),(11,.sl .u32 (Hu ws k t [a0,a1,a2,a3,a4,a5,a6,a7]))] [(0,some (.var (Fa Iz))),(1,some (.row 128 .u32 h))])
 | 0,t,a0,a1,a2,a3,a4,a5,a6,a7,hk=>by
  rw[AO];conv=>lhs;whnf
  refine BX ?_
  ((conv in(close _ _ _ _)=>skip);conv=>lhs;rw[Dl H6,Dl hw])
  refine BX ?_
  rw[Dl H6];unfold Hu;rfl
 | k+1,t,a0,a1,a2,a3,a4,a5,a6,a7,hk=>by
  have ih:=fun s0 s1 s2 s3 s4 s5 s6 s7=>A7O h p a ws hw k (t+1) s0 s1 s2 s3 s4 s5 s6 s7 zaa
  rw[AO];conv=>lhs;whnf
  refine BX ?_
  rw[A9s]
  refine BX ?_
  rw[A9u]
  refine BX ?_
  rw[A9v]
  refine BX ?_
  rw[A8P _]
  refine BX ?_
  rw[A5q _]
  refine BX ?_
  rw[A5r _]
  refine BX ?_
  rw[A7M]
  refine BX ?_
  rw[A7N]
  refine BX ?_
  rw[EK (ws:=Iz) (by rw[H6];omega)]
  refine BX ?_
  rw[EK (ws:=ws) zaa]
  refine BX ?_
  rw[A8Q _]
  refine BX ?_
  rw[A5s _]
  refine BX ?_
  rw[A5t _]
  refine BX ?_
  rw[A2s]
  refine BX ?_
  rw[A2t]
  refine BX ?_
  rw[A2s]
  refine BX ?_
  rw[A2t]
  refine BX ?_
  rw[A2s]
  refine BX ?_
  rw[A2t]
  refine BX ?_
  rw[A9t]
  refine BX ?_
  rw[A7M]
  refine BX ?_
  rw[A7N]
  refine BX ?_
  ((conv in(XV _ _)=>skip);conv=>lhs;rw[Dl H6,Dl hw])
  refine BX ?_
  rw[show((t:Int)+1)=((t+1:Nat):Int) from by omega];refine((congrArg (Y E0) (by rw[Dl hw,Dl H6];rfl)).trans (ih _ _ _ _ _ _ _ _)).trans ?_;simp only[Jz,JO,LY,show 0+(t:Int).toNat*1=t from by omega];rw[show Hu ws (k+1) t [a0,a1,a2,a3,a4,a5,a6,a7]=Hu ws k (t+1) (Ws (Iz.getD t 0) (ws.getD t 0) [a0,a1,a2,a3,a4,a5,a6,a7]) from by rw[Hu]];rfl
end
section
attribute [local irreducible] Bl CQ CS Bo Bg Ar CU Dw EN Dy EC Bf BU Bv Bz and' C9 CB BK Au BA BL BN Aa Ad AP AZ CV Dq CW DI CE BP BM BF BG BB AU BC Ae Ap Ai CX BH Bh Ba BO CG CY CJ fits CZ CO A8 AA Ac
attribute [local irreducible] Kz EG GK Fa Iz Hu Em Vy
theorem A8V(hh:h.length=8)(p:List UInt8)(a:Nat)(ws:List UInt32)(hw:ws.length=64):Y E0 (.loop 29 2 0 3 [(3,.pa 0 0),(4,.nm 1),(5,.sl .u8 p),(6,.i a),(7,.pa 2 0),(11,.sl .u32 (BO [] h)),(12,.i 0)] [(0,some (.var ((List.range 64).map fun i=>AV.u32 (Iz.getD i 0)))),(1,some (.row 128 .u32 h)),(2,some (.var ((List.range 64).map fun i=>AV.u32 (ws.getD i 0))))])=some (.fin (.exit 4) 2 [(3,.pa 0 0),(4,.nm 1),(5,.sl .u8 p),(6,.i a),(11,.sl .u32 (Hu ws 64 0 h))] [(0,some (.var ((List.range 64).map fun i=>AV.u32 (Iz.getD i 0)))),(1,some (.row 128 .u32 h))]):=by
 have e:=A7O h p a ws hw 64 0 (h.getD 0 0) (h.getD 1 0) (h.getD 2 0) (h.getD 3 0) (h.getD 4 0) (h.getD 5 0) (h.getD 6 0) (h.getD 7 0) rfl
 rw[A8T hh,Dl H6,Dl hw] at e
 rw[Am]
 exact e
theorem A7P(h s:List UInt32)(hh:h.length=8)(hs:s.length=8)(p:List UInt8)(a:Nat):∀(k i:Nat),i+k=8->Y E0 (.loop 29 3 0 2 [(3,.pa 0 0),(4,.nm 1),(5,.sl .u8 p),(6,.i a),(11,.sl .u32 s),(17,.i i)] [(0,some (.var ((List.range 64).map fun i=>AV.u32 (Iz.getD i 0)))),(1,some (.row 128 .u32 (SB h s i)))])=some (.fin (.exit 6) 2 [(3,.pa 0 0),(4,.nm 1),(5,.sl .u8 p),(6,.i a)] [(0,some (.var ((List.range 64).map fun i=>AV.u32 (Iz.getD i 0)))),(1,some (.row 128 .u32 (SB h s 8)))])
 | 0,i,hk=>by
  obtain rfl:i=8:=zaa
  rw[AO];conv=>lhs;whnf
  refine BX ?_
  rfl
 | k+1,i,hk=>by
  have ih:=A7P h s hh hs p a k (i+1) zaa
  have hl:=A0w h s i zaa zaa
  rw[AO];conv=>lhs;whnf
  refine toA ?_
  rw[PI (ws:=SB h s i) zaa,iF h s i zaa zaa]
  refine toA ?_
  rw[PI (ws:=s) zaa]
  refine toA ?_
  rw[PI (ws:=SB h s i) zaa,iF h s i zaa zaa]
  refine BX ?_
  rw[show((i:Int)+1)=((i+1:Nat):Int) from by omega,Ea,Jz,show((i:Nat):Int).toNat=i from by omega,A0x h s i zaa zaa];exact ih
theorem zD:SB h (Hu (Dc b 64) 64 0 h) 8=EG h b:=by
 rw[EG,show Hu (Dc b 64) 64 0 h=Gj (Dc b 64) h 64 from Xo _ _ 64 0]
theorem A8W(a:Nat):(List.take ((a:Int)+64-a).toNat (List.drop (a:Int).toNat p))=(p.drop a).take 64:=by rw[show((a:Int)+64-a).toNat=64 from by omega,show(a:Int).toNat=a from by omega]
theorem A7Q(p:List UInt8)(hp:p.length<=8589934592):∀(n a:Nat) (h:List UInt32),h.length=8->a+64*n=p.length->Y E0 (.loop 29 0 0 2 [(3,.pa 0 0),(4,.nm 1),(5,.sl .u8 p),(6,.i a)] [(0,some (.var ((List.range 64).map fun i=>AV.u32 (Iz.getD i 0)))),(1,some (.row 128 .u32 h))])=some (.fin (.exit 0) 0 [(4,.sl .u32 (GK EG n h (p.drop a)))] [])
 | 0,a,h,hh,hn=>by
  rw[AO];conv=>lhs;whnf
  refine BX ?_
  rw[GK]
 | n+1,a,h,hh,hn=>by
  have ih:=A7Q p hp n (a+64) (EG h ((p.drop a).take 64)) (KQ _ _ hh) zaa
  have e:=A8U h p _ a zaa hp rfl
  have f:=A8V h hh p a (Dc (List.take ((a:Int)+64-a).toNat (List.drop (a:Int).toNat p)) 64) (JD _ _)
  have g:=A7P h _ hh (QK (Dc (List.take ((a:Int)+64-a).toNat (List.drop (a:Int).toNat p)) 64) 64 0 h hh) p a 8 0 rfl
  rw[AO];conv=>lhs;whnf
  refine BX ?_
  (erw[e])
  refine BX ?_
  (erw[f])
  refine BX ?_
  (erw[g])
  refine BX ?_
  rw[zD,A8W,show((a:Int)+64)=((a+64:Nat):Int) from by omega];exact ih.trans (by rw[GK,List.drop_drop])
theorem QL(hl:l.length<=4294967296):Y E0 (.call 29 [.sl .u8 l] [])=some (.ret (.sl .u8 (sha256 l)) []):=by
 have hp:=SA l
 have e:=A7Q (KP l) zaa ((KP l).length/64) 0 h256 rfl zaa
 have hf:=Lh (m:=8) KQ ((KP l).length/64) h256 (KP l) rfl
 refine BX ?_
 rw[A2k]
 refine BX ?_
 rw[A5y _ Cc]
 refine BX ?_
 (erw[e])
 refine BX ?_
 rw[A2o _ Cc]
 refine BX ?_
 rfl
end
end Go.Proofs.YtanagnimhaemgaaGreatDoor
namespace Go.Proofs.YtanagnimhaemgaaGreatDoor
open Go Go.RowKit Go.Eng Go.Ax
theorem Gm(l:List UInt8)(hl:l.length<=4294967296):Y E0 (.call 176 [.i 1,.sl .u8 l] [])=some (.ret (.sl .u8 (sha256 l)) []):=zC 1 l hl
end Go.Proofs.YtanagnimhaemgaaGreatDoor
