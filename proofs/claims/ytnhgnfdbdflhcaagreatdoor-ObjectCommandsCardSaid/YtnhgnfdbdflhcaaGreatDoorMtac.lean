/-
  Own texts, laid together for this claim: contracts of functions of the program and its references, used by the statements of this seat.
-/
import Derived.Test.YtnhgnfdbdflhcaaGreatDoorMtab
set_option linter.all false
set_option maxHeartbeats 40000000
set_option maxRecDepth 100000
namespace Go.Ax
open Go Go.Eng
variable (a0 a1 a2 a3 a4 a5 a6 a7:UInt32)
def EK(ws:List UInt32):Nat->Nat->S5->S5
 | 0,_,s=>s
 | k+1,t,s=>EK ws k (t+1) (UK t (ws.getD t 0) s)
theorem dE(ws:List UInt32)(s:S5):∀(k t:Nat),EK ws k t (kC ws s t)=kC ws s (t+k)
 | 0,t=>rfl
 | k+1,t=>by rw[show t+(k+1)=t+1+k from by omega,<-dE ws s k (t+1)];rfl
theorem yO(t:Nat)(w a b c d e f q:UInt32)(hf:f=f1 t b c d)(hq:q=k1 t):UK t w ⟨a,b,c,d,e⟩=⟨jv a 5+f+e+q+w,a,jv b 30,c,d⟩:=by subst hf hq;rfl
theorem yP(h0 h1 h2 h3 h4:UInt32)(b:List UInt8):LJ [h0,h1,h2,h3,h4] b=[h0+(EK (LH b 80) 80 0 ⟨h0,h1,h2,h3,h4⟩).a,h1+(EK (LH b 80) 80 0 ⟨h0,h1,h2,h3,h4⟩).b,h2+(EK (LH b 80) 80 0 ⟨h0,h1,h2,h3,h4⟩).c,h3+(EK (LH b 80) 80 0 ⟨h0,h1,h2,h3,h4⟩).d,h4+(EK (LH b 80) 80 0 ⟨h0,h1,h2,h3,h4⟩).e]:=by
 rw[show EK (LH b 80) 80 0 ⟨h0,h1,h2,h3,h4⟩=kC (LH b 80) ⟨h0,h1,h2,h3,h4⟩ 80 from dE _ _ 80 0];rfl
theorem A62(x:UInt32):[Bi (Aw x 24),Bi (Aw x 16),Bi (Aw x 8),Bi x]=wb x:=by
 rw[IW zal,IW zal,IW zal];simp only[fU];rfl
theorem V6{ws:List UInt32}{j:Nat}(h:j<ws.length):Ih (ws.drop j)=wb (ws.getD j 0)++Ih (ws.drop (j+1)):=by
 rw[List.drop_eq_getElem_cons h];simp only[Ih,List.flatMap_cons,List.getD,List.getElem?_eq_getElem h,Option.getD_some]
theorem QP{ws:List UInt32}{j:Nat}(h:j<ws.length):BO ws (j:Int)=some (ws.getD j 0):=by
 rw[DZ ⟨by omega,by omega⟩];simp[List.getD,h]
theorem lu(n:UInt64)(i:Int)(c:Nat)(h:(c:Int)=i/\c<64):Bz (BG n (Bl i).toNat)=(n>>>UInt64.ofNat c).toUInt8:=by
 obtain⟨rfl,h⟩:=h
 rw[Us,MH,KX zaa,RZ zaa];rfl
theorem XW(n m:UInt64)(c:Nat)(h:m.toNat=c)(hc:c<64):Bz (BG n m.toNat)=(n>>>UInt64.ofNat c).toUInt8:=by
 subst h;rw[Us,RZ hc]
theorem A36(l:List UInt8):Bh .mul (Bl (l.length:Int)) (UInt64.ofNat 8)=UInt64.ofInt (l.length:Int)*8:=by rw[Ew,MH];rfl
theorem A83{l:List UInt32}(h:l.length=5):[l.getD 0 0,l.getD 1 0,l.getD 2 0,l.getD 3 0,l.getD 4 0]=l:=by
 match l,h with
 | [_,_,_,_,_],_=>rfl
theorem A77{l:List UInt32}(h:l.length=8):[l.getD 0 0,l.getD 1 0,l.getD 2 0,l.getD 3 0,l.getD 4 0,l.getD 5 0,l.getD 6 0,l.getD 7 0]=l:=by
 match l,h with
 | [_,_,_,_,_,_,_,_],_=>rfl
theorem A63{p:List UInt8}(h:64<=p.length):List.take (Bj p-64).toNat (List.drop (Int.toNat 64) p)=p.drop 64:=by
 rw[BB];exact List.take_of_length_le zaU
theorem Hy:Jb.length=64:=rfl
theorem A84:BO [a0,a1,a2,a3,a4,a5,a6,a7] 0=some a0:=Iu zal rfl
theorem A39:BO [a0,a1,a2,a3,a4,a5,a6,a7] 1=some a1:=Iu zal rfl
theorem A3A:BO [a0,a1,a2,a3,a4,a5,a6,a7] 2=some a2:=Iu zal rfl
theorem A85:BO [a0,a1,a2,a3,a4,a5,a6,a7] 3=some a3:=Iu zal rfl
theorem A86:BO [a0,a1,a2,a3,a4,a5,a6,a7] 4=some a4:=Iu zal rfl
theorem A65:BO [a0,a1,a2,a3,a4,a5,a6,a7] 5=some a5:=Iu zal rfl
theorem A66:BO [a0,a1,a2,a3,a4,a5,a6,a7] 6=some a6:=Iu zal rfl
theorem A87:BO [a0,a1,a2,a3,a4,a5,a6,a7] 7=some a7:=Iu zal rfl
end Go.Ax
namespace Go.Proofs.YtnhgnfdbdflhcaaGreatDoor
open Go Go.Ax Go.Eng
variable (h:List UInt32)(l b p:List UInt8)(ws:List UInt32)(h0 h1 h2 h3 h4:UInt32)
section
attribute [local irreducible] Cc Dn D7 DU DD BA Dp F7 FY FD Ez Ci CS DK DV and' DW DL C9 BR Bh CB CG BG BI Aw BC Dq Fh Dt ER DX Bl CE Bv Bz Bi Az Bg BK Bj BO Du Bc DF BZ BM Cj Di fits Dv Dk Ac Am BH
attribute [local irreducible] GH
theorem nx1(t:Nat)(hs:ws.take t=LH b t)(h:16<=t):
  jv (BR .xor (BR .xor (BR .xor (ws.getD (0+((t:Int)-3).toNat*1) 0) (ws.getD (0+((t:Int)-8).toNat*1) 0)) (ws.getD (0+((t:Int)-14).toNat*1) 0)) (ws.getD (0+((t:Int)-16).toNat*1) 0)) 1=YX b (LH b t) t:=by
 rw[show 0+((t:Int)-3).toNat*1=t-3 from by omega,show 0+((t:Int)-8).toNat*1=t-8 from by omega,show 0+((t:Int)-14).toNat*1=t-14 from by omega,show 0+((t:Int)-16).toNat*1=t-16 from by omega]
 rw[YX,if_neg zaa,Nb hs (show t-3<t by omega),Nb hs (show t-8<t by omega),Nb hs (show t-14<t by omega),Nb hs (show t-16<t by omega)]
 simp only[H6]
theorem A60(b:List UInt8)(h0 h1 h2 h3 h4:UInt32)(hb:b.length=64):∀(k t:Nat) (ws:List UInt32),t+k=80->ws.length=80->ws.take t=LH b t ->
  Y E0 (.loop 211 0 1 2 [(0,AV.pa 0 0),(1,AV.sl Ty.u8 b),(4,AV.pa 1 0),(14,AV.i t)] [(0,some (.var [.u32 h0,.u32 h1,.u32 h2,.u32 h3,.u32 h4])),(1,some (Rs.var (GH ws)))])=some (.fin (.exit 0) 2 [(0,AV.pa 0 0),(4,AV.pa 1 0)] [(0,some (.var [.u32 h0,.u32 h1,.u32 h2,.u32 h3,.u32 h4])),(1,some (Rs.var (GH (LH b 80))))])
 | 0,t,ws,hk,hw,hs=>by
  have e:ws=LH b 80:=zbF
  rw[<-e]
  rw[Ad];conv=>lhs;whnf
  rw[A2h hw (show 80<=t by omega)]
  refine BF ?_
  rfl
 | k+1,t,ws,hk,hw,hs=>by
  have ih:=fun x (hx:x=YX b (LH b t) t)=>A60 b h0 h1 h2 h3 h4 hb k (t+1) (ws.set t x) zaa (by simpa using hw) zbL
  rw[Ad];conv=>lhs;whnf
  refine BF ?_
  rcases AZ (↑t) 16 with hc0|hc0
  ·
   refine BF ?_
   rw[yL _ _ CW CW]
   conv=>lhs;whnf
   try dsimp -iota -beta -eta -zeta only
   rw[Gm zaa]
   conv=>lhs;whnf
   rw[EZ zaa]
   conv=>lhs;whnf
   try dsimp -iota -beta -eta -zeta only
   rw[Jq zaa];conv=>lhs;whnf
   rw[LY zaa]
   refine BF ?_
   rw[JH hw]
   refine BF ?_
   rw[show((t:Int)+1)=((t+1:Nat):Int) from by omega,show 0+((t:Nat):Int).toNat*1=t from by omega];refine(congrArg (Y E0) ?_).trans (ih (be32 b (4*t)) (by rw[YX,if_pos zaa]));rw[JH hw];rfl
  refine BF ?_
  rw[EJ zaa]
  refine BF ?_
  rw[EJ zaa]
  refine BF ?_
  rw[EJ zaa]
  refine BF ?_
  rw[EJ zaa]
  refine BF ?_
  rw[A59 _]
  conv=>lhs;whnf
  try dsimp -iota -beta -eta -zeta only
  rw[Gm zaa]
  conv=>lhs;whnf
  rw[EZ zaa]
  conv=>lhs;whnf
  try dsimp -iota -beta -eta -zeta only
  rw[Jq zaa];conv=>lhs;whnf
  rw[LY zaa]
  conv=>lhs;whnf
  try dsimp -iota -beta -eta -zeta only
  rw[JH hw]
  refine BF ?_
  rw[show((t:Int)+1)=((t+1:Nat):Int) from by omega,show 0+((t:Nat):Int).toNat*1=t from by omega];refine(congrArg (Y E0) ?_).trans (ih _ (nx1 b ws t hs zaa));rw[JH hw];rfl
theorem A75(hb:b.length=64):Y E0 (.loop 211 0 1 2 [(0,AV.pa 0 0),(1,AV.sl Ty.u8 b),(4,AV.pa 1 0),(14,AV.i 0)] [(0,some (.var [.u32 h0,.u32 h1,.u32 h2,.u32 h3,.u32 h4])),(1,some (Rs.var (List.replicate 80 (.u32 0))))])=some (.fin (.exit 0) 2 [(0,AV.pa 0 0),(4,AV.pa 1 0)] [(0,some (.var [.u32 h0,.u32 h1,.u32 h2,.u32 h3,.u32 h4])),(1,some (Rs.var (GH (LH b 80))))]):=by
 have e:=A60 b h0 h1 h2 h3 h4 hb 80 0 (List.replicate 80 0) rfl rfl rfl
 rw[D8 (ws:=List.replicate 80 0) (n:=80) rfl] at e
 exact e
end
section
attribute [local irreducible] Cc Dn D7 DU DD BA Dp F7 FY FD Ez Ci CS DK DV and' DW DL C9 BR Bh CB CG BG BI Aw BC Dq Fh Dt ER DX Bl CE Bv Bz Bi Az Bg BK Bj BO Du Bc DF BZ BM Cj Di fits Dv Dk Ac Am BH
attribute [local irreducible] GH EK UK
theorem A81(hw:ws.length=80)(h0 h1 h2 h3 h4:UInt32){G:S5->Option Rsp}(t:Nat)(a b c d e f q:UInt32)(ht:t<80)(hr:∀ s:S5,Y E0 (.loop 211 1 1 2 [(0,.pa 0 0),(4,.pa 1 0),(6,.u32 s.a),(7,.u32 s.b),(8,.u32 s.c),(9,.u32 s.d),(10,.u32 s.e),(67,.i (t+1:Nat))] [(0,some (.var [.u32 h0,.u32 h1,.u32 h2,.u32 h3,.u32 h4])),(1,some (.var (GH ws)))])=G s)(hf:f=f1 t b c d)(hq:q=k1 t):Y E0 (.drw ⟨165,211,1⟩ [true,true,true,false,true,false,false,true,true,false,false,true,true,true] 0 [] [.blk 3,.seq [true,true,true,false,true,false,false,true,true,true] 2,.lup 1] 2 [(0,.pa 0 0),(4,.pa 1 0),(6,.u32 a),(7,.u32 b),(8,.u32 c),(9,.u32 d),(10,.u32 e),(11,.i t),(12,.u32 f),(13,.u32 q),(67,.i t)] [(0,some (.var [.u32 h0,.u32 h1,.u32 h2,.u32 h3,.u32 h4])),(1,some (.var (GH ws)))])=G (UK t (ws.getD t 0) ⟨a,b,c,d,e⟩):=by
 rw[yO t _ a b c d e f q hf hq]
 rw[Ad];conv=>lhs;whnf
 refine BF ?_
 rw[A5A _]
 refine BF ?_
 rw[EJ zaa]
 refine BF ?_
 rw[A31 _]
 refine BF ?_
 ((conv in(close _ _ _ _)=>skip);rw[D8 hw])
 refine BF ?_
 rw[show((t:Int)+1)=((t+1:Nat):Int) from by omega];simp only[J9,show 0+(t:Int).toNat*1=t from by omega];exact(congrArg (Y E0) zbg).trans (hr ⟨_,_,_,_,_⟩)
theorem A61(ws:List UInt32)(hw:ws.length=80)(h0 h1 h2 h3 h4:UInt32):∀(k t:Nat) (s:S5),t+k=80->Y E0 (.loop 211 1 1 2 [(0,.pa 0 0),(4,.pa 1 0),(6,.u32 s.a),(7,.u32 s.b),(8,.u32 s.c),(9,.u32 s.d),(10,.u32 s.e),(67,.i t)] [(0,some (.var [.u32 h0,.u32 h1,.u32 h2,.u32 h3,.u32 h4])),(1,some (.var (GH ws)))])=some (.fin (.exit 2) 1 [(0,.pa 0 0),(6,.u32 (EK ws k t s).a),(7,.u32 (EK ws k t s).b),(8,.u32 (EK ws k t s).c),(9,.u32 (EK ws k t s).d),(10,.u32 (EK ws k t s).e)] [(0,some (.var [.u32 h0,.u32 h1,.u32 h2,.u32 h3,.u32 h4]))])
 | 0,t,s,hk=>by
  rw[Ad];conv=>lhs;whnf
  refine BF ?_
  unfold EK;rfl
 | k+1,t,⟨a,b,c,d,e⟩,hk=>by
  have ih:=fun f q=>A81 ws hw h0 h1 h2 h3 h4 t a b c d e f q zaa (fun s=>A61 ws hw h0 h1 h2 h3 h4 k (t+1) s zaa)
  rw[show EK ws (k+1) t ⟨a,b,c,d,e⟩=EK ws k (t+1) (UK t (ws.getD t 0) ⟨a,b,c,d,e⟩) from by rw[EK]]
  rw[Ad];conv=>lhs;whnf
  refine BF ?_
  rcases AL (↑t/20) 0 with hc0|hc0
  ·
   refine BF ?_
   ((conv in(close _ _ _ _)=>skip);rw[D8 hw])
   conv=>lhs;whnf
   exact(congrArg (Y E0) zbg).trans (ih _ _ zaj zai)
  refine BF ?_
  rcases AL (↑t/20) 1 with hc1|hc1
  ·
   refine BF ?_
   ((conv in(close _ _ _ _)=>skip);rw[D8 hw])
   conv=>lhs;whnf
   exact(congrArg (Y E0) zbg).trans (ih _ _ zaj zai)
  refine BF ?_
  rcases AL (↑t/20) 2 with hc2|hc2
  ·
   refine BF ?_
   ((conv in(close _ _ _ _)=>skip);rw[D8 hw])
   conv=>lhs;whnf
   exact(congrArg (Y E0) zbg).trans (ih _ _ zaj zai)
  refine BF ?_
  ((conv in(close _ _ _ _)=>skip);rw[D8 hw])
  conv=>lhs;whnf
  exact(congrArg (Y E0) zbg).trans (ih _ _ zaj zai)
end
section
attribute [local irreducible] Cc Dn D7 DU DD BA Dp F7 FY FD Ez Ci CS DK DV and' DW DL C9 BR Bh CB CG BG BI Aw BC Dq Fh Dt ER DX Bl CE Bv Bz Bi Az Bg BK Bj BO Du Bc DF BZ BM Cj Di fits Dv Dk Ac Am BH
attribute [local irreducible] GH EK UK
theorem A76(hw:ws.length=80)(h0 h1 h2 h3 h4:UInt32):Y E0 (.loop 211 1 1 2 [(0,.pa 0 0),(4,.pa 1 0),(6,.u32 h0),(7,.u32 h1),(8,.u32 h2),(9,.u32 h3),(10,.u32 h4),(67,.i 0)] [(0,some (.var [.u32 h0,.u32 h1,.u32 h2,.u32 h3,.u32 h4])),(1,some (.var ((List.range 80).map fun i=>.u32 (ws.getD i 0))))])=some (.fin (.exit 2) 1 [(0,.pa 0 0),(6,.u32 (EK ws 80 0 ⟨h0,h1,h2,h3,h4⟩).a),(7,.u32 (EK ws 80 0 ⟨h0,h1,h2,h3,h4⟩).b),(8,.u32 (EK ws 80 0 ⟨h0,h1,h2,h3,h4⟩).c),(9,.u32 (EK ws 80 0 ⟨h0,h1,h2,h3,h4⟩).d),(10,.u32 (EK ws 80 0 ⟨h0,h1,h2,h3,h4⟩).e)] [(0,some (.var [.u32 h0,.u32 h1,.u32 h2,.u32 h3,.u32 h4]))]):=by
 have e:=A61 ws hw h0 h1 h2 h3 h4 80 0 ⟨h0,h1,h2,h3,h4⟩ rfl
 rw[D8 hw] at e
 exact e
theorem A82(hb:b.length=64):Y E0 (.call 211 [.pa 0 0,.sl .u8 b] [.var [.u32 h0,.u32 h1,.u32 h2,.u32 h3,.u32 h4]])=some (.ret (.tup []) [some (.var ((List.range 5).map fun i=>.u32 ((LJ [h0,h1,h2,h3,h4] b).getD i 0)))]):=by
 rw[yP]
 refine BF ?_
 (erw[A75 b _ _ _ _ _ hb])
 refine BF ?_
 ((conv in(close _ _ _ _)=>skip);rw[D8 (UJ b 80)])
 refine BF ?_
 (erw[A76 (LH b 80) (UJ b 80)])
 refine BF ?_
 simp only[J9];rfl
end
section
attribute [local irreducible] Cc Dn D7 DU DD BA Dp F7 FY FD Ez Ci CS DK DV and' DW DL C9 BR Bh CB CG BG BI Aw BC Dq Fh Dt ER DX Bl CE Bv Bz Bi Az Bg BK Bj BO Du Bc DF BZ BM Cj Di fits Dv Dk Ac Am BH
attribute [local irreducible] wb Ih
theorem XV(ws:List UInt32)(h:ws.length<=1000):∀(k j:Nat) (acc:List UInt8),j+k=ws.length->acc.length<=4*j->Y E0 (.loop 212 0 0 1 [(3,.nm 0),(10,.sl .u32 ws),(11,.i (Bj ws)),(12,.i j)] [(0,some (.row 5 .u8 acc))])=some (.fin (.exit 0) 0 [(3,.sl .u8 (acc++Ih (ws.drop j)))] [])
 | 0,j,acc,hj,ha=>by
  rw[Ad];conv=>lhs;whnf
  refine BF ?_
  rw[List.drop_of_length_le zaa];unfold Ih;simp
 | k+1,j,acc,hj,ha=>by
  have ih:=XV ws h k (j+1) (BM acc (wb (ws.getD j 0))) zaa (by rw[Ag,List.length_append];unfold wb;simp;omega)
  rw[Ad];conv=>lhs;whnf
  refine toA ?_
  rw[QP zaa]
  refine BF ?_
  refine(congrArg (Y E0) zbB).trans (ih.trans (by rw[V6 (j:=j) zaa,Ag,List.append_assoc]))
theorem dF(h:ws.length<=1000)(h0:0<ws.length):Y E0 (.call 212 [.sl .u32 ws] [])=some (.ret (.sl .u8 (Ih ws)) []):=by
 have e:=XV ws h ws.length 0 [] zaa zam
 refine BF ?_
 (erw[e])
 refine BF ?_
 rfl
theorem ZV(ws:List UInt32)(h:ws.length<=1000):∀(k j:Nat) (acc:List UInt8),j+k=ws.length->acc.length<=4*j->Y E0 (.loop 229 0 0 1 [(0,.sl .u32 ws),(3,.nm 0),(4,.i j)] [(0,some (.row 5 .u8 acc))])=some (.fin (.exit 0) 0 [(3,.sl .u8 (acc++Ih (ws.drop j)))] [])
 | 0,j,acc,hj,ha=>by
  rw[Ad];conv=>lhs;whnf
  refine BF ?_
  rw[List.drop_of_length_le zaa];unfold Ih;simp
 | k+1,j,acc,hj,ha=>by
  have ih:=ZV ws h k (j+1) (BM acc (wb (ws.getD j 0))) zaa (by rw[Ag,List.length_append];unfold wb;simp;omega)
  rw[Ad];conv=>lhs;whnf
  refine toA ?_
  rw[QP zaa]
  refine toA ?_
  rw[QP zaa]
  refine toA ?_
  rw[QP zaa]
  refine toA ?_
  rw[QP zaa]
  refine BF ?_
  refine(congrArg (Y E0) zbB).trans (ih.trans (by rw[V6 (j:=j) zaa,Ag,List.append_assoc]))
theorem lq(h:ws.length<=1000):Y E0 (.call 229 [.sl .u32 ws] [])=some (.ret (.sl .u8 (Ih ws)) []):=by
 have e:=ZV ws h ws.length 0 [] zaa zam
 refine BF ?_
 (erw[e])
 refine BF ?_
 rfl
end
section
attribute [local irreducible] Cc Dn D7 DU DD BA Dp F7 FY FD Ez Ci CS DK DV and' DW DL C9 BR Bh CB CG BG BI Aw BC Dq Fh Dt ER DX Bl CE Bv Bz Bi Az Bg BK Bj BO Du Bc DF BZ BM Cj Di fits Dv Dk Ac Am BH
theorem lw(l:List UInt8):∀(k:Nat) (x:List UInt8),k<64->(x.length+k)%64=56->x.length+k<=8589934592->Y E0 (.loop 210 0 0 1 [(0,.sl .u8 l),(3,.nm 0)] [(0,some (.row 5 .u8 x))])=some (.fin (.exit 0) 1 [(0,.sl .u8 l),(3,.nm 0)] [(0,some (.row 5 .u8 (x++List.replicate k 0)))])
 | 0,x,h,hm,hx=>by
  rw[Ad];conv=>lhs;whnf
  refine BF ?_
  simp
 | k+1,x,h,hm,hx=>by
  have ih:=lw l k (BM x [UInt8.ofNat 0]) zaa (by rw[Ag,List.length_append,<-hm];simp;omega) (by rw[Ag,List.length_append];simp;omega)
  rw[Ad];conv=>lhs;whnf
  refine BF ?_
  exact ih.trans (by rw[Ag,List.append_assoc];rfl)
theorem A37(x:List UInt8)(n:UInt64)(hx:x.length<=8589934592):Y E0 (.loop 210 1 0 1 [(3,.nm 0),(4,.u64 n),(5,.i 56)] [(0,some (.row 5 .u8 x))])=some (.fin (.exit 2) 0 [(3,.sl .u8 (x++A4O n))] []):=by
 refine BF ?_
 refine BF ?_
 refine BF ?_
 refine BF ?_
 refine BF ?_
 refine BF ?_
 refine BF ?_
 refine BF ?_
 refine BF ?_
 rw[lu n _ 56 zaa,lu n _ 48 zaa,lu n _ 40 zaa,lu n _ 32 zaa,lu n _ 24 zaa,lu n _ 16 zaa,lu n _ 8 zaa,lu n _ 0 zaa];simp only[Ag,List.append_assoc];rfl
theorem A38(h:l.length<=4294967296):Y E0 (.call 210 [.sl .u8 l] [])=some (.ret (.sl .u8 (NT l)) []):=by
 have e:=lw l (zerosN l.length) (BM (BM [] l) [UInt8.ofNat 128]) (by unfold zerosN;omega) zaP zaP
 have f:=fun n=>A37 (BM (BM [] l) [UInt8.ofNat 128]++List.replicate (zerosN l.length) 0) n zaP
 refine BF ?_
 rw[e]
 refine BF ?_
 (rw[f])
 refine BF ?_
 simp only[Ag,BB,A36,NT];rfl
theorem dG(l:List UInt8):∀(k:Nat) (x:List UInt8),k<64->(x.length+k)%64=56->x.length+k<=8589934592->Y E0 (.loop 226 0 0 1 [(0,.sl .u8 l),(3,.nm 0)] [(0,some (.row 5 .u8 x))])=some (.fin (.exit 0) 1 [(0,.sl .u8 l),(3,.nm 0)] [(0,some (.row 5 .u8 (x++List.replicate k 0)))])
 | 0,x,h,hm,hx=>by
  rw[Ad];conv=>lhs;whnf
  refine BF ?_
  simp
 | k+1,x,h,hm,hx=>by
  have ih:=dG l k (BM x [UInt8.ofNat 0]) zaa (by rw[Ag,List.length_append,<-hm];simp;omega) (by rw[Ag,List.length_append];simp;omega)
  rw[Ad];conv=>lhs;whnf
  refine BF ?_
  exact ih.trans (by rw[Ag,List.append_assoc];rfl)
theorem A0G(x:List UInt8)(n:UInt64)(hx:x.length<=8589934592):Y E0 (.loop 226 1 0 1 [(3,.nm 0),(4,.u64 n),(5,.i 7)] [(0,some (.row 5 .u8 x))])=some (.fin (.exit 2) 0 [(3,.sl .u8 (x++A4O n))] []):=by
 refine BF ?_
 refine BF ?_
 refine BF ?_
 refine BF ?_
 refine BF ?_
 refine BF ?_
 refine BF ?_
 refine BF ?_
 refine BF ?_
 rw[XW n _ 56 zbH zal,XW n _ 48 zbH zal,XW n _ 40 zbH zal,XW n _ 32 zbH zal,XW n _ 24 zbH zal,XW n _ 16 zbH zal,XW n _ 8 zbH zal,XW n _ 0 zbH zal];simp only[Ag,List.append_assoc];rfl
theorem yQ(h:l.length<=4294967296):Y E0 (.call 226 [.sl .u8 l] [])=some (.ret (.sl .u8 (NT l)) []):=by
 have e:=dG l (zerosN l.length) (BM (BM [] l) [UInt8.ofNat 128]) (by unfold zerosN;omega) zaP zaP
 have f:=fun n=>A0G (BM (BM [] l) [UInt8.ofNat 128]++List.replicate (zerosN l.length) 0) n zaP
 refine BF ?_
 rw[e]
 refine BF ?_
 (rw[f])
 refine BF ?_
 simp only[Ag,BB,A36,NT];rfl
end
section
attribute [local irreducible] Cc Dn D7 DU DD BA Dp F7 FY FD Ez Ci CS DK DV and' DW DL C9 BR Bh CB CG BG BI Aw BC Dq Fh Dt ER DX Bl CE Bv Bz Bi Az Bg BK Bj BO Du Bc DF BZ BM Cj Di fits Dv Dk Ac Am BH
attribute [local irreducible] LJ FB Gv
theorem dH:∀(n:Nat) (p:List UInt8) (h0 h1 h2 h3 h4:UInt32),p.length=64*n->p.length<=8589934592->Y E0 (.loop 159 0 0 1 [(5,.pa 0 0),(6,.sl .u8 p)] [(0,some (.var [.u32 h0,.u32 h1,.u32 h2,.u32 h3,.u32 h4]))])=some (.fin (.exit 1) 1 [(5,.pa 0 0)] [(0,some (.var ((List.range 5).map fun i=>.u32 ((Gv LJ n [h0,h1,h2,h3,h4] p).getD i 0))))])
 | 0,p,h0,h1,h2,h3,h4,hp,hq=>by
  rw[Ad];conv=>lhs;whnf
  refine BF ?_
  unfold Gv;rfl
 | n+1,p,h0,h1,h2,h3,h4,hp,hq=>by
  have ih:=dH n (p.drop 64) ((LJ [h0,h1,h2,h3,h4] (p.take 64)).getD 0 0) ((LJ [h0,h1,h2,h3,h4] (p.take 64)).getD 1 0) ((LJ [h0,h1,h2,h3,h4] (p.take 64)).getD 2 0) ((LJ [h0,h1,h2,h3,h4] (p.take 64)).getD 3 0) ((LJ [h0,h1,h2,h3,h4] (p.take 64)).getD 4 0) zaU zaU
  rw[A83 (Qy _ _)] at ih
  rw[Ad];conv=>lhs;whnf
  refine BF ?_
  rw[A82 (hb:=CW) ..]
  refine BF ?_
  rw[A63 zaa];exact ih.trans (by rw[Gv])
theorem dI:∀(n:Nat) (p:List UInt8) (h0 h1 h2 h3 h4 h5 h6 h7:UInt32),p.length=64*n->p.length<=8589934592->Y E0 (.loop 159 1 0 1 [(7,.pa 0 0),(8,.sl .u8 p)] [(0,some (.var [.u32 h0,.u32 h1,.u32 h2,.u32 h3,.u32 h4,.u32 h5,.u32 h6,.u32 h7]))])=some (.fin (.exit 3) 1 [(7,.pa 0 0)] [(0,some (.var ((List.range 8).map fun i=>.u32 ((Gv FB n [h0,h1,h2,h3,h4,h5,h6,h7] p).getD i 0))))])
 | 0,p,h0,h1,h2,h3,h4,h5,h6,h7,hp,hq=>by
  rw[Ad];conv=>lhs;whnf
  refine BF ?_
  unfold Gv;rfl
 | n+1,p,h0,h1,h2,h3,h4,h5,h6,h7,hp,hq=>by
  have ih:=dI n (p.drop 64) ((FB [h0,h1,h2,h3,h4,h5,h6,h7] (p.take 64)).getD 0 0) ((FB [h0,h1,h2,h3,h4,h5,h6,h7] (p.take 64)).getD 1 0) ((FB [h0,h1,h2,h3,h4,h5,h6,h7] (p.take 64)).getD 2 0) ((FB [h0,h1,h2,h3,h4,h5,h6,h7] (p.take 64)).getD 3 0) ((FB [h0,h1,h2,h3,h4,h5,h6,h7] (p.take 64)).getD 4 0) ((FB [h0,h1,h2,h3,h4,h5,h6,h7] (p.take 64)).getD 5 0) ((FB [h0,h1,h2,h3,h4,h5,h6,h7] (p.take 64)).getD 6 0) ((FB [h0,h1,h2,h3,h4,h5,h6,h7] (p.take 64)).getD 7 0) zaU zaU
  rw[A77 (LK _ _ rfl)] at ih
  rw[Ad];conv=>lhs;whnf
  refine BF ?_
  rw[A5K (hb:=CW) ..]
  refine BF ?_
  rw[A63 zaa];exact ih.trans (by rw[Gv])
theorem A0H(alg:Int)(l:List UInt8)(hl:l.length<=4294967296):Y E0 (.call 159 [.i alg,.sl .u8 l] [])=some (.ret (.sl .u8 (A7c alg l)) []):=by
 have hp:=YW l
 have e0:=dH ((NT l).length/64) (NT l) 1732584193 4023233417 2562383102 271733878 3285377520 zaa zaa
 have e1:=dI ((NT l).length/64) (NT l) 1779033703 3144134277 1013904242 2773480762 1359893119 2600822924 528734635 1541459225 zaa zaa
 refine BF ?_
 rcases AL alg 0 with hc0|hc0
 ·
  subst hc0
  refine BF ?_
  rw[A38 _ CW]
  refine BF ?_
  (erw[e0])
  refine BF ?_
  rw[dF _ CW CW]
  refine BF ?_
  rw[A83 (KR (m:=5) (fun h b _=>Qy h b) _ _ _ rfl)];rfl
 refine BF ?_
 rcases AL alg 1 with hc1|hc1
 ·
  subst hc1
  refine BF ?_
  rw[A38 _ CW]
  refine BF ?_
  (erw[e1])
  refine BF ?_
  rw[dF _ CW CW]
  refine BF ?_
  rw[A77 (KR (m:=8) LK _ _ _ rfl)];rfl
 refine BF ?_
 rw[A7c,if_neg hc0,if_neg hc1]
end
section
attribute [local irreducible] Cc Dn D7 DU DD BA Dp F7 FY FD Ez Ci CS DK DV and' DW DL C9 BR Bh CB CG BG BI Aw BC Dq Fh Dt ER DX Bl CE Bv Bz Bi Az Bg BK Bj BO Du Bc DF BZ BM Cj Di fits Dv Dk Ac Am BH
attribute [local irreducible] LJ FB Gv GH Jb IR EK UK
theorem A64(h:List UInt32)(p b:List UInt8)(a:Nat)(ha:a+64<=p.length)(hp:p.length<=8589934592)(hb:b=List.take ((a:Int)+64-a).toNat (List.drop (a:Int).toNat p)):∀(k t:Nat) (ws:List UInt32),t+k=64->ws.length=64->ws.take t=FM b t->Y E0 (.loop 176 1 0 3 [(3,.pa 0 0),(4,.nm 1),(5,.sl .u8 p),(6,.i a),(7,.pa 2 0),(8,.i t)] [(0,some (.var (GH Jb))),(1,some (.row 134 .u32 h)),(2,some (.var (GH ws)))])=some (.fin (.exit 2) 3 [(3,.pa 0 0),(4,.nm 1),(5,.sl .u8 p),(6,.i a),(7,.pa 2 0)] [(0,some (.var (GH Jb))),(1,some (.row 134 .u32 h)),(2,some (.var (GH (FM b 64))))])
 | 0,t,ws,hk,hw,hs=>by
  have e:ws=FM b 64:=zbE
  rw[<-e]
  rw[Ad];conv=>lhs;whnf
  refine BF ?_
  ((conv in(close _ _ _ _)=>skip);conv=>lhs;rw[D8 Hy,D8 hw])
  refine BF ?_
  rw[D8 hw,D8 Hy];rfl
 | k+1,t,ws,hk,hw,hs=>by
  have ih:=fun x (hx:x=Oj b (FM b t) t)=>A64 h p b a ha hp hb k (t+1) (ws.set t x) zaa (by simpa using hw) zbL
  rw[Ad];conv=>lhs;whnf
  refine BF ?_
  rcases AZ (↑t) 16 with hc0|hc0
  ·
   refine BF ?_
   rw[lm _ _ CW CW]
   conv=>lhs;whnf
   try dsimp -iota -beta -eta -zeta only
   rw[Gm zaa]
   conv=>lhs;whnf
   rw[EZ zaa]
   conv=>lhs;whnf
   try dsimp -iota -beta -eta -zeta only
   rw[Jq zaa];conv=>lhs;whnf
   rw[LY zaa]
   refine BF ?_
   ((conv in(close _ _ _ _)=>skip);conv=>lhs;rw[D8 Hy,JH hw])
   refine BF ?_
   rw[show((t:Int)+1)=((t+1:Nat):Int) from by omega,show 0+((t:Nat):Int).toNat*1=t from by omega,<-hb];refine(congrArg (Y E0) ?_).trans (ih (be32 b (4*t)) (by rw[Oj,if_pos zaa]));rw[JH hw,D8 Hy];rfl
  refine BF ?_
  rw[EJ zaa]
  refine BF ?_
  rw[A70 _]
  refine BF ?_
  rw[EJ zaa]
  refine BF ?_
  rw[A5B _]
  refine BF ?_
  rw[EJ zaa]
  refine BF ?_
  rw[EJ zaa]
  refine BF ?_
  rw[A5C _]
  refine BF ?_
  rw[EJ zaa]
  refine BF ?_
  rw[A5D _]
  refine BF ?_
  rw[EJ zaa]
  refine BF ?_
  rw[EJ zaa]
  refine BF ?_
  rw[EJ zaa]
  conv=>lhs;whnf
  try dsimp -iota -beta -eta -zeta only
  rw[Gm zaa]
  conv=>lhs;whnf
  rw[EZ zaa]
  conv=>lhs;whnf
  try dsimp -iota -beta -eta -zeta only
  rw[Jq zaa];conv=>lhs;whnf
  rw[LY zaa]
  refine BF ?_
  ((conv in(close _ _ _ _)=>skip);conv=>lhs;rw[D8 Hy,JH hw])
  refine BF ?_
  rw[show((t:Int)+1)=((t+1:Nat):Int) from by omega,show 0+((t:Nat):Int).toNat*1=t from by omega];refine(congrArg (Y E0) ?_).trans (ih _ (A5z b ws t hs zaa));rw[JH hw,D8 Hy];rfl
end
section
attribute [local irreducible] Cc Dn D7 DU DD BA Dp F7 FY FD Ez Ci CS DK DV and' DW DL C9 BR Bh CB CG BG BI Aw BC Dq Fh Dt ER DX Bl CE Bv Bz Bi Az Bg BK Bj BO Du Bc DF BZ BM Cj Di fits Dv Dk Ac Am BH
attribute [local irreducible] LJ FB Gv GH Jb IR EK UK
theorem A78(b:List UInt8)(a:Nat)(ha:a+64<=p.length)(hp:p.length<=8589934592)(hb:b=List.take ((a:Int)+64-a).toNat (List.drop (a:Int).toNat p)):Y E0 (.loop 176 1 0 3 [(3,.pa 0 0),(4,.nm 1),(5,.sl .u8 p),(6,.i a),(7,.pa 2 0),(8,.i 0)] [(0,some (.var ((List.range 64).map fun i=>AV.u32 (Jb.getD i 0)))),(1,some (.row 134 .u32 h)),(2,some (.var (List.replicate 64 (.u32 0))))])=some (.fin (.exit 2) 3 [(3,.pa 0 0),(4,.nm 1),(5,.sl .u8 p),(6,.i a),(7,.pa 2 0)] [(0,some (.var ((List.range 64).map fun i=>AV.u32 (Jb.getD i 0)))),(1,some (.row 134 .u32 h)),(2,some (.var ((List.range 64).map fun i=>AV.u32 ((FM b 64).getD i 0))))]):=by
 have e:=A64 h p b a ha hp hb 64 0 (List.replicate 64 0) rfl rfl rfl
 rw[D8 (ws:=List.replicate 64 0) (n:=64) rfl,D8 Hy,D8 (Ol b 64)] at e
 exact e
theorem A67(h:List UInt32)(p:List UInt8)(a:Nat)(ws:List UInt32)(hw:ws.length=64):∀(k t:Nat) (a0 a1 a2 a3 a4 a5 a6 a7:UInt32),t+k=64->Y E0 (.loop 176 2 0 3 [(3,.pa 0 0),(4,.nm 1),(5,.sl .u8 p),(6,.i a),(7,.pa 2 0),(11,.sl .u32 [a0,a1,a2,a3,a4,a5,a6,a7]),(12,.i t)] [(0,some (.var (GH Jb))),(1,some (.row 134 .u32 h)),(2,some (.var (GH ws)))])=some (.fin (.exit 4) 2 [(3,.pa 0 0),(4,.nm 1),(5,.sl .u8 p),(6,.i a),(11,.sl .u32 (IR ws k t [a0,a1,a2,a3,a4,a5,a6,a7]))] [(0,some (.var (GH Jb))),(1,some (.row 134 .u32 h))])
 | 0,t,a0,a1,a2,a3,a4,a5,a6,a7,hk=>by
  rw[Ad];conv=>lhs;whnf
  refine BF ?_
  ((conv in(close _ _ _ _)=>skip);conv=>lhs;rw[D8 Hy,D8 hw])
  refine BF ?_
  rw[D8 Hy];unfold IR;rfl
 | k+1,t,a0,a1,a2,a3,a4,a5,a6,a7,hk=>by
  have ih:=fun s0 s1 s2 s3 s4 s5 s6 s7=>A67 h p a ws hw k (t+1) s0 s1 s2 s3 s4 s5 s6 s7 zaa
  rw[Ad];conv=>lhs;whnf
  refine BF ?_
  rw[A84]
  refine BF ?_
  rw[A86]
  refine BF ?_
  rw[A87]
  refine BF ?_
  rw[A71 _]
  refine BF ?_
  rw[A5E _]
  refine BF ?_
  rw[A5F _]
  refine BF ?_
  rw[A65]
  refine BF ?_
  rw[A66]
  refine BF ?_
  rw[EJ (ws:=Jb) (by rw[Hy];omega)]
  refine BF ?_
  rw[EJ (ws:=ws) zaa]
  refine BF ?_
  rw[A72 _]
  refine BF ?_
  rw[A5G _]
  refine BF ?_
  rw[A5H _]
  refine BF ?_
  rw[A39]
  refine BF ?_
  rw[A3A]
  refine BF ?_
  rw[A39]
  refine BF ?_
  rw[A3A]
  refine BF ?_
  rw[A39]
  refine BF ?_
  rw[A3A]
  refine BF ?_
  rw[A85]
  refine BF ?_
  rw[A65]
  refine BF ?_
  rw[A66]
  refine BF ?_
  ((conv in(Z5 _ _)=>skip);conv=>lhs;rw[D8 Hy,D8 hw])
  refine BF ?_
  rw[show((t:Int)+1)=((t+1:Nat):Int) from by omega];refine((congrArg (Y E0) (by rw[D8 hw,D8 Hy];rfl)).trans (ih _ _ _ _ _ _ _ _)).trans ?_;simp only[J9,H6,IX,show 0+(t:Int).toNat*1=t from by omega];rw[show IR ws (k+1) t [a0,a1,a2,a3,a4,a5,a6,a7]=IR ws k (t+1) (fH (Jb.getD t 0) (ws.getD t 0) [a0,a1,a2,a3,a4,a5,a6,a7]) from by rw[IR]];rfl
end
section
attribute [local irreducible] Cc Dn D7 DU DD BA Dp F7 FY FD Ez Ci CS DK DV and' DW DL C9 BR Bh CB CG BG BI Aw BC Dq Fh Dt ER DX Bl CE Bv Bz Bi Az Bg BK Bj BO Du Bc DF BZ BM Cj Di fits Dv Dk Ac Am BH
attribute [local irreducible] LJ FB Gv GH Jb IR EK UK
theorem A79(hh:h.length=8)(p:List UInt8)(a:Nat)(ws:List UInt32)(hw:ws.length=64):Y E0 (.loop 176 2 0 3 [(3,.pa 0 0),(4,.nm 1),(5,.sl .u8 p),(6,.i a),(7,.pa 2 0),(11,.sl .u32 (BM [] h)),(12,.i 0)] [(0,some (.var ((List.range 64).map fun i=>AV.u32 (Jb.getD i 0)))),(1,some (.row 134 .u32 h)),(2,some (.var ((List.range 64).map fun i=>AV.u32 (ws.getD i 0))))])=some (.fin (.exit 4) 2 [(3,.pa 0 0),(4,.nm 1),(5,.sl .u8 p),(6,.i a),(11,.sl .u32 (IR ws 64 0 h))] [(0,some (.var ((List.range 64).map fun i=>AV.u32 (Jb.getD i 0)))),(1,some (.row 134 .u32 h))]):=by
 have e:=A67 h p a ws hw 64 0 (h.getD 0 0) (h.getD 1 0) (h.getD 2 0) (h.getD 3 0) (h.getD 4 0) (h.getD 5 0) (h.getD 6 0) (h.getD 7 0) rfl
 rw[A77 hh,D8 Hy,D8 hw] at e
 rw[Ag]
 exact e
theorem A68(h s:List UInt32)(hh:h.length=8)(hs:s.length=8)(p:List UInt8)(a:Nat):∀(k i:Nat),i+k=8->Y E0 (.loop 176 3 0 2 [(3,.pa 0 0),(4,.nm 1),(5,.sl .u8 p),(6,.i a),(11,.sl .u32 s),(17,.i i)] [(0,some (.var ((List.range 64).map fun i=>AV.u32 (Jb.getD i 0)))),(1,some (.row 134 .u32 (UI h s i)))])=some (.fin (.exit 6) 2 [(3,.pa 0 0),(4,.nm 1),(5,.sl .u8 p),(6,.i a)] [(0,some (.var ((List.range 64).map fun i=>AV.u32 (Jb.getD i 0)))),(1,some (.row 134 .u32 (UI h s 8)))])
 | 0,i,hk=>by
  obtain rfl:i=8:=zaa
  rw[Ad];conv=>lhs;whnf
  refine BF ?_
  rfl
 | k+1,i,hk=>by
  have ih:=A68 h s hh hs p a k (i+1) zaa
  have hl:=A1O h s i zaa zaa
  rw[Ad];conv=>lhs;whnf
  refine toA ?_
  rw[QP (ws:=UI h s i) zaa,jy h s i zaa zaa]
  refine toA ?_
  rw[QP (ws:=s) zaa]
  refine toA ?_
  rw[QP (ws:=UI h s i) zaa,jy h s i zaa zaa]
  refine BF ?_
  rw[show((i:Int)+1)=((i+1:Nat):Int) from by omega,GG,J9,show((i:Nat):Int).toNat=i from by omega,A1P h s i zaa zaa];exact ih
theorem A0I:UI h (IR (FM b 64) 64 0 h) 8=FB h b:=by
 rw[FB,show IR (FM b 64) 64 0 h=Om (FM b 64) h 64 from ZU _ _ 64 0]
theorem A3B(a:Nat):(List.take ((a:Int)+64-a).toNat (List.drop (a:Int).toNat p))=(p.drop a).take 64:=by rw[show((a:Int)+64-a).toNat=64 from by omega,show(a:Int).toNat=a from by omega]
theorem A69(p:List UInt8)(hp:p.length<=8589934592):∀(n a:Nat) (h:List UInt32),h.length=8->a+64*n=p.length->Y E0 (.loop 176 0 0 2 [(3,.pa 0 0),(4,.nm 1),(5,.sl .u8 p),(6,.i a)] [(0,some (.var ((List.range 64).map fun i=>AV.u32 (Jb.getD i 0)))),(1,some (.row 134 .u32 h))])=some (.fin (.exit 0) 0 [(4,.sl .u32 (Gv FB n h (p.drop a)))] [])
 | 0,a,h,hh,hn=>by
  rw[Ad];conv=>lhs;whnf
  refine BF ?_
  rw[Gv]
 | n+1,a,h,hh,hn=>by
  have ih:=A69 p hp n (a+64) (FB h ((p.drop a).take 64)) (LK _ _ hh) zaa
  have e:=A78 h p _ a zaa hp rfl
  have f:=A79 h hh p a (FM (List.take ((a:Int)+64-a).toNat (List.drop (a:Int).toNat p)) 64) (Ol _ _)
  have g:=A68 h _ hh (Rk (FM (List.take ((a:Int)+64-a).toNat (List.drop (a:Int).toNat p)) 64) 64 0 h hh) p a 8 0 rfl
  rw[Ad];conv=>lhs;whnf
  refine BF ?_
  (erw[e])
  refine BF ?_
  (erw[f])
  refine BF ?_
  (erw[g])
  refine BF ?_
  rw[A0I,A3B,show((a:Int)+64)=((a+64:Nat):Int) from by omega];exact ih.trans (by rw[Gv,List.drop_drop])
theorem Hz(hl:l.length<=4294967296):Y E0 (.call 176 [.sl .u8 l] [])=some (.ret (.sl .u8 (sha256 l)) []):=by
 have hp:=YW l
 have e:=A69 (NT l) zaa ((NT l).length/64) 0 h256 rfl zaa
 have hf:=KR (m:=8) LK ((NT l).length/64) h256 (NT l) rfl
 refine BF ?_
 rw[A32]
 refine BF ?_
 rw[yQ _ CW]
 refine BF ?_
 (erw[e])
 refine BF ?_
 rw[lq _ CW]
 refine BF ?_
 rfl
end
end Go.Proofs.YtnhgnfdbdflhcaaGreatDoor
