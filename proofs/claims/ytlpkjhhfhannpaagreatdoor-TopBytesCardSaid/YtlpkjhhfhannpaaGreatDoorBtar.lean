/- Own texts of this claim: contracts of functions. -/
import Derived.Test.YtlpkjhhfhannpaaGreatDoorBtao
set_option linter.all false
set_option maxHeartbeats 40000000
set_option maxRecDepth 100000
namespace Go.Ax
open Go Go.Eng Go.RowKit
theorem A5O{par s:Sen}{p:Pub}(h1:s.auth.length<=32)(h2:s.seed.length<=32)(h3:s.data.length<=128):1<=(F5 par p s).length:=by
 unfold F5
 have hn:=DD p
 have hp:(Yi s).length<=1024:=by unfold Yi;simp only[AO,List.length_nil];omega
 rw[ak zaX hp];omega
end Go.Ax
namespace Go.Proofs.YtlpkjhhfhannpaaGreatDoor
open Go Go.Ax Go.Eng
attribute [local irreducible] CS Cj CP CW CQ BC Cm ED ES Dx EG CJ Bi Ce CX and' Cf CU BL Au BI BP BR Ag Ai AY Ae D5 EJ D6 DX Cb BZ BQ BM BO BJ AZ BK Aj Ak Ap D7 BB CV BU BF CO D8 Cc fits D9 Ci AC AQ Ah
variable {a k:Int}(s:MS)(n:Int)
section
attribute [local irreducible] BG DY CY nameB Eh Ef Az Ei Eo F5 Ff Fh Bg Io GI JD Jk JE Jh Ha NZ Na IJ
theorem rC(s:MS)(n:Int)(b:List UInt8){a k:Int}(hi:Kp a k s):∀(q:Nat) (j h:Int),0<=j->j+q=3->768<=h/\h<=770->EC E0 (.loop 33 0 0 1 [(1,.i n),(3,.sl .u8 b),(4,.pa 0 0),(10,.i h),(11,.i j)] [(0,some (.var (cv s)))]) fun r=>∃ h:Int,(768<=h/\h<=770)/\r=some (.fin (.exit 0) 1 [(1,.i n),(3,.sl .u8 b),(4,.pa 0 0),(10,.i h)] [(0,some (.var (cv s)))])
 | 0,j,h,h0,hj,hh=>by
  have hl:=hi.ssl
  refine G5 fun P hP=>?_
  refine tw ?_;exact hP _ ⟨h,AA,rfl⟩
 | q+1,j,h,h0,hj,hh=>by
  have hl:=hi.ssl
  have ih:=fun h=>rC s n b hi q (j+1) h zaa zaa
  refine G5 fun P hP=>?_
  refine tw ?_;rw[AAL _ _ AA];refine tw ?_;obtain⟨⟨x0a,x0b,x0c,x0d,x0e,x0f,x0g,x0h⟩,f0,g0⟩:=JI hi.ssm (i:=(h-768)%3) AA;simp only[Gv,LZ,O7,O8,Jf,KA,KC,KD] at f0;rw[g0];refine tw ?_
  rcases Ar x0a 1 with hc1|hc1
  ·subst hc1;rw[Dz zaa]
   conv=>arg 1;whnf
   rw[Aa zaa]
   conv=>arg 1;whnf
   try dsimp -iota -beta -eta -zeta only
   rw[DV zaa];rw[Bj (a:=h-768) (b:=1) zaa];rw[Ew zaa];rw[Bj zaa];rw[Bj zaa];exact hP _ (ih _ zaa)
  refine tw ?_;exact hP _ ⟨h,AA,rfl⟩
theorem XN(m:Int)(b:List UInt8)(hi:Kp a k s)(hn:0<=n/\n<=4294967296)(hm:0<=m/\m<=4294967296)(hb:b.length<=1000):EC E0 (.call 33 [av s,.i n,.i m,.sl .u8 b] []) fun r=>∃(is:List Int) (bs:List (List UInt8)),(is.length=6/\bs.length<=2/\∀ x∈bs,x.length<=2000)/\r=some (.ret (.tup [.sl .i64 is,.sl (.sl .u8) bs]) []):=by
 refine G5 fun P hP=>tw ?_
 obtain⟨h0,⟨h0_1,h0_2⟩,yy0⟩:=Kr s m 0 hi AA;refine Dv yy0 ?_;obtain⟨h1,⟨h1_1,h1_2⟩,yy1⟩:=rC s n b hi (Int.toNat (3-(0))) 0 h0 AA zaa AA;refine Dv yy1 ?_
 rcases Ar (n%8) 0 with hc2|hc2
 ·refine tw ?_
  rcases Ar (n/8%4) 3 with hc3|hc3
  ·refine tw ?_;rw[Kq _];refine tw ?_
   refine hP _ ⟨[h1,1,CP (BC BinOp.and s.ac 1) (n/8%256),CP (CW s.ac 2) (CQ (CW n 3) 65536),0,0],[DY b],?_,rfl⟩;(refine⟨rfl,by simp,?_⟩;simp only[List.forall_mem_cons,List.not_mem_nil,false_implies,implies_true,and_true];(repeat' apply And.intro)<;>first|omega|(rw[Be];decide)|(rw[List.length_take];omega)|(simp;omega))
  refine tw ?_;exact hP _ ⟨[h1,1,CP (BC BinOp.and s.ac 1) (n/8%256),CP (CW s.ac 2) (CQ (CW n 3) 65536),0,0],[[]],clo,rfl⟩
 refine tw ?_
 rcases Ar (n%8) 1 with hc4|hc4
 ·refine tw ?_
  rcases Ar (n/8%4) 3 with hc5|hc5
  ·refine tw ?_;rw[Kq _];refine tw ?_
   refine hP _ ⟨[h1,1,CP (BC BinOp.and s.ac 1) (n/8%256),CP (CW s.ac 2) (CQ (CW n 3) 65536),0,0],[DY b],?_,rfl⟩;(refine⟨rfl,by simp,?_⟩;simp only[List.forall_mem_cons,List.not_mem_nil,false_implies,implies_true,and_true];(repeat' apply And.intro)<;>first|omega|(rw[Be];decide)|(rw[List.length_take];omega)|(simp;omega))
  refine tw ?_;exact hP _ ⟨[h1,1,CP (BC BinOp.and s.ac 1) (n/8%256),CP (CW s.ac 2) (CQ (CW n 3) 65536),0,0],[[]],clo,rfl⟩
 refine tw ?_
 rcases Ar (n%8) 2 with hc6|hc6
 ·refine tw ?_;exact hP _ ⟨[h1,2,0,0,1+n/8%31,0],[],clo,rfl⟩
 refine tw ?_
 rcases Ar (n%8) 3 with hc7|hc7
 ·refine tw ?_
  (obtain⟨z,mz,gz⟩:=EO (l:=([13,14,15,23,24]:List Int)) (i:=n/8%5) zaD;rw[gz]);refine tw ?_;exact hP _ ⟨[h1,3,0,0,z,0],[],clo,rfl⟩
 refine tw ?_
 rcases Ar (n%8) 4 with hc8|hc8
 ·refine tw ?_;obtain⟨h9,⟨h9_1,h9_2⟩,yy9⟩:=XL s (n/8) hi AA;refine tvn yy9 ?_;rw[FU _ _ AA];refine tw ?_;exact hP _ ⟨[h1,4,0,0,h9,n/32%4],[List.take (Int.toNat 3) b],AA,rfl⟩
 refine tw ?_
 rcases Ar (n%8) 5 with hc10|hc10
 ·refine tw ?_;exact hP _ ⟨[h1,5,0,0,n%300,n/8%4],[],clo,rfl⟩
 refine tw ?_
 rcases Ar (n%8) 6 with hc11|hc11
 ·refine tw ?_;exact hP _ ⟨[h1,7,0,0,0,0],[],clo,rfl⟩
 refine tw ?_;obtain⟨e12,c12_1,n12_2,d12_3,u12_4,l12_5,m12_6,t12_7,b12_8,⟨h12_9,h12_10,h12_11⟩,yy12⟩:=Md s h1 hi AA;refine Dv yy12 ?_;rw[Kq _];refine tw ?_
 rcases Ar (n/8%4) 0 with hc13|hc13
 ·refine tw ?_;rw[Kq _];refine tw ?_;rw[Kq _];refine tw ?_
  refine hP _ ⟨[h1,8,0,0,0,0],[DY b,DY []],?_,rfl⟩;(refine⟨rfl,by simp,?_⟩;simp only[List.forall_mem_cons,List.not_mem_nil,false_implies,implies_true,and_true];(repeat' apply And.intro)<;>first|omega|(rw[Be];decide)|(rw[List.length_take];omega)|(simp;omega))
 refine tw ?_
 rcases Ar (↑d12_3.length) 0 with hc14|hc14
 ·refine tw ?_;rw[Kq _];refine tw ?_;rw[Kq _];refine tw ?_
  refine hP _ ⟨[h1,8,0,0,0,0],[DY b,DY []],?_,rfl⟩;(refine⟨rfl,by simp,?_⟩;simp only[List.forall_mem_cons,List.not_mem_nil,false_implies,implies_true,and_true];(repeat' apply And.intro)<;>first|omega|(rw[Be];decide)|(rw[List.length_take];omega)|(simp;omega))
 refine tw ?_
 refine hP _ ⟨[h1,8,0,0,0,0],[DY b,d12_3],?_,rfl⟩;(refine⟨rfl,by simp,?_⟩;simp only[List.forall_mem_cons,List.not_mem_nil,false_implies,implies_true,and_true];(repeat' apply And.intro)<;>first|omega|(rw[Be];decide)|(rw[List.length_take];omega)|(simp;omega))
theorem ZP(h n:Int)(b:List UInt8)(hi:Kp a k s)(hn:0<=n/\n<=4294967296)(hb:b.length<=1000):EC E0 (.call 31 [av s,.i h,.i n,.sl .u8 b] []) fun r=>∃ o u:List UInt8,(o.length<=2000/\u.length<=2000)/\r=some (.ret (.sl (.sl .u8) [o,u]) []):=by
 have hol:=hi.obl
 refine G5 fun P hP=>tw ?_
 rw[wF (hl:=AA) ..];refine tw ?_
 rcases Bc (yx h s.ob) 0 with hc0|hc0
 ·refine tw ?_;exact hP _ ⟨b,b,AA,rfl⟩
 refine tw ?_;obtain⟨i11,i21_1,i31_2,o1_3,u1_4,d1_5,⟨h1_6,h1_7,h1_8,h1_9,h1_10⟩,yy1⟩:=Qu s n b hi AA AA;refine Dv yy1 ?_;rw[FU _ _ AA];refine tw ?_
 (rw[uz _ _ _ _ _ _ _ _ zaX];have hml:=Yj (secret:=List.take (Int.toNat 8) b) (auth:=u1_4) (data:=d1_5) (p:=⟨i11,i21_1,i31_2,o1_3,[]⟩);generalize CY (List.take (Int.toNat 8) b) ⟨i11,i21_1,i31_2,o1_3,[]⟩ u1_4 d1_5=M at *;obtain⟨⟨qk,qa,qt,qo,qu⟩,⟨qx,qy,qz⟩,er⟩:=M;dsimp only[A0r,A45] at *)
 refine tw ?_
 rcases CE er 0 with hc2|hc2
 ·refine tw ?_;exact hP _ ⟨b,b,AA,rfl⟩
 subst hc2;refine tw ?_
 have q3:=wE (h) (s.ob)
 obtain⟨⟨⟨x3a,x3b,x3c,x3d,x3e⟩,⟨x3f,x3g,x3h⟩,x3i⟩,f3,g3⟩:=JI hi.obm (i:=yx h s.ob) AA;simp only[Gv,LZ,O7,O8,Jf,KA,KC,KD] at f3;rw[g3];refine tw ?_
 (rw[vC _ _ _ _ _ _ _ _ _ _ _ zaa zaa zaa];have hpl:=A5F ⟨x3f,x3g,x3h⟩ ⟨qx,qy,qz⟩ ⟨qk,qa,qt,qo,qu⟩;have hpg:=A5O (par:=⟨x3f,x3g,x3h⟩) (p:=⟨qk,qa,qt,qo,qu⟩) (s:=⟨qx,qy,qz⟩) za1 za1 za1;generalize F5 ⟨x3f,x3g,x3h⟩ ⟨qk,qa,qt,qo,qu⟩ ⟨qx,qy,qz⟩=V at *)
 refine tw ?_
 rcases Ar (n%13) 12 with hc4|hc4
 ·refine tw ?_;obtain⟨x5,m5,g5⟩:=EO (l:=V) (i:=Ak V-1) zay;rw[g5];refine tw ?_;rw[g5];refine tw ?_;rw[MG _ _ _ _ _ AA AA];refine tw ?_
  refine hP _ ⟨Eh {kind:=qk,attr:=qa,height:=qt,policy:=qo,unique:=qu},BB V (Ak V-1) (CU BinOp.xor x5 (UInt8.ofNat 1)),?_,rfl⟩;(refine⟨?_,?_⟩<;>first|omega|(rw[Js za1 za1];simp only;omega)|(rw[EL,List.length_set];omega))
 refine tw ?_;rw[MG _ _ _ _ _ AA AA];refine tw ?_
 refine hP _ ⟨Eh {kind:=qk,attr:=qa,height:=qt,policy:=qo,unique:=qu},V,?_,rfl⟩;(refine⟨?_,?_⟩<;>first|omega|(rw[Js za1 za1];simp only;omega)|(rw[EL,List.length_set];omega))
theorem A5P(b:List UInt8)(hi:Kp a k s)(hn:0<=n/\n<=4294967296)(hb:b.length<=1000):EC E0 (.call 35 [av s,.i n,.sl .u8 b] []) fun r=>∃(h:Int) (o u v:List UInt8),(o.length<=2000/\u.length<=2000/\v.length<=2000)/\r=some (.ret (.tup [.sl .i64 [h],.sl (.sl .u8) [o,u,v]]) []):=by
 have hpk:=yS (DY (List.take (Int.toNat 2) b)) 0
 have hsg:∀ m,(GI (DY (List.take (Int.toNat 2) b)) 0 0 m).length=561:=fun m=>by rw[A3y zaj zaj];rfl
 refine G5 fun P hP=>tw ?_
 obtain⟨h0,⟨h0_1,h0_2⟩,yy0⟩:=Kr s n 2 hi AA;refine Dv yy0 ?_;obtain⟨e1,c1_1,n1_2,d1_3,u1_4,l1_5,m1_6,t1_7,b1_8,⟨h1_9,h1_10,h1_11⟩,yy1⟩:=Md s h0 hi AA;refine Dv yy1 ?_;rw[FU _ _ AA];refine tw ?_;rw[Kq _];refine tw ?_;rw[nS _ _ AA];refine tw ?_;rw[FU _ _ AA];refine tw ?_;obtain⟨l2,h2_1,yy2⟩:=wC d1_3 (List.take (n%4).toNat b) AA AA;refine Dv yy2 ?_;rw[bT _ _ _ _ AA AA];refine tw ?_
 rcases Ar (n%5) 4 with hc3|hc3
 ·refine tw ?_;rw[bT _ _ _ _ AA AA];refine tw ?_;rw[MG _ _ _ _ _ zat zaa];refine tw ?_
  refine hP _ ⟨h0,Eh {kind:=2,attr:=1,height:=0,policy:=[],unique:=IJ (DY (List.take (Int.toNat 2) b)) 0},List.take (n%4).toNat b,GI (DY (List.take (Int.toNat 2) b)) 0 0 b,?_,rfl⟩;(refine⟨?_,?_,?_⟩<;>first|omega|(rw[Js zat za1];simp only[List.length_nil];omega)|(rw[hsg];decide)|(rw[List.length_take];omega))
 refine tw ?_;rw[MG _ _ _ _ _ zat zaa];refine tw ?_
 refine hP _ ⟨h0,Eh {kind:=2,attr:=1,height:=0,policy:=[],unique:=IJ (DY (List.take (Int.toNat 2) b)) 0},List.take (n%4).toNat b,GI (DY (List.take (Int.toNat 2) b)) 0 0 l2,?_,rfl⟩;(refine⟨?_,?_,?_⟩<;>first|omega|(rw[Js zat za1];simp only[List.length_nil];omega)|(rw[hsg];decide)|(rw[List.length_take];omega))
theorem LH(k' n:Int)(b:List UInt8)(hi:Kp a k s)(hn:0<=n/\n<=4294967296)(hk:0<=k'/\k'<=7)(hb:b.length<=1000):EC E0 (.call 38 [av s,.i k',.i n,.sl .u8 b] []) fun r=>∃(c h1 h2:Int) (is:List Int) (bs:List (List UInt8)),(is.length<=2/\bs.length<=1/\∀ x∈bs,x.length<=1000)/\r=some (.ret (rq c [h1,h2] [] is bs) []):=by
 have hxl:=hi.ixl
 have hxm:=hi.ixm
 refine G5 fun P hP=>tw ?_
 obtain⟨h0,⟨h0_1,h0_2⟩,yy0⟩:=XL s n hi AA;refine Dv yy0 ?_
 rcases Ar (n/9%4) 0 with hc1|hc1
 ·refine tv ?_;rw[FU _ _ AA];refine tv ?_;rw[WR (hl:=AA) (hx:=AA) ..];refine tv ?_
  rcases Gw 0 (ixI h0 s.ix) with hc2|hc2
  ·refine tv ?_
   have q3:=A5E (h0) (s.ix)
   obtain⟨⟨x3a,x3b,x3c,x3d,x3e,x3f,x3g,x3h⟩,f3,g3⟩:=JI hxm (i:=ixI h0 s.ix) AA;simp only[Gv,LZ,O7,O8,Jf,KA,KC,KD] at f3;rw[g3];refine tw ?_
   rcases Bc k' 2 with hc4|hc4
   ·refine tw ?_;exact hP _ ⟨24,1,h0,[n%3,n/3%10],[],clo,rfl⟩
   refine tw ?_
   rcases Ar k' 2 with hc5|hc5
   ·subst hc5;refine tw ?_;exact hP _ ⟨28+n%2,1,h0,[],[],AA,rfl⟩
   refine tw ?_
   rcases Ar x3b 2 with hc6|hc6
   ·subst hc6;refine tw ?_;exact hP _ ⟨25,1,h0,[],[],AA,rfl⟩
   refine tw ?_
   rcases Ar k' 7 with hc7|hc7
   ·subst hc7;refine tw ?_;exact hP _ ⟨25,1,h0,[],[],AA,rfl⟩
   refine tw ?_
   rcases Ar x3b 3 with hc8|hc8
   ·subst hc8;refine tw ?_;rw[Kq _];refine tw ?_;exact hP _ ⟨26,1,h0,[],[List.take (Int.toNat 8) (DY b)],AA,rfl⟩
   refine tw ?_
   rcases Ar x3b 4 with hc9|hc9
   ·subst hc9;refine tw ?_;exact hP _ ⟨27,1,h0,[],[b],AA,rfl⟩
   refine tw ?_;exact hP _ ⟨23,1,h0,[n%6],[List.take (Int.toNat 6) b],AA,rfl⟩
  refine tw ?_
  rcases Bc k' 2 with hc10|hc10
  ·refine tw ?_;exact hP _ ⟨24,1,h0,[n%3,n/3%10],[],clo,rfl⟩
  refine tw ?_
  rcases Ar k' 2 with hc11|hc11
  ·subst hc11;refine tw ?_;exact hP _ ⟨28+n%2,1,h0,[],[],AA,rfl⟩
  refine tw ?_
  rcases Ar k' 7 with hc12|hc12
  ·subst hc12;refine tw ?_;exact hP _ ⟨25,1,h0,[],[],AA,rfl⟩
  refine tw ?_;exact hP _ ⟨23,1,h0,[n%6],[List.take (Int.toNat 6) b],AA,rfl⟩
 refine tv ?_;rw[FU _ _ AA];refine tv ?_;rw[WR (hl:=AA) (hx:=AA) ..];refine tv ?_
 rcases Gw 0 (ixI h0 s.ix) with hc13|hc13
 ·refine tv ?_
  have q14:=A5E (h0) (s.ix)
  obtain⟨⟨x14a,x14b,x14c,x14d,x14e,x14f,x14g,x14h⟩,f14,g14⟩:=JI hxm (i:=ixI h0 s.ix) AA;simp only[Gv,LZ,O7,O8,Jf,KA,KC,KD] at f14;rw[g14];refine tw ?_
  rcases Bc k' 2 with hc15|hc15
  ·refine tw ?_;exact hP _ ⟨24,h0,h0,[n%3,n/3%10],[],clo,rfl⟩
  refine tw ?_
  rcases Ar k' 2 with hc16|hc16
  ·subst hc16;refine tw ?_;exact hP _ ⟨28+n%2,h0,h0,[],[],AA,rfl⟩
  refine tw ?_
  rcases Ar x14b 2 with hc17|hc17
  ·subst hc17;refine tw ?_;exact hP _ ⟨25,h0,h0,[],[],AA,rfl⟩
  refine tw ?_
  rcases Ar k' 7 with hc18|hc18
  ·subst hc18;refine tw ?_;exact hP _ ⟨25,h0,h0,[],[],AA,rfl⟩
  refine tw ?_
  rcases Ar x14b 3 with hc19|hc19
  ·subst hc19;refine tw ?_;rw[Kq _];refine tw ?_;exact hP _ ⟨26,h0,h0,[],[List.take (Int.toNat 8) (DY b)],AA,rfl⟩
  refine tw ?_
  rcases Ar x14b 4 with hc20|hc20
  ·subst hc20;refine tw ?_;exact hP _ ⟨27,h0,h0,[],[b],AA,rfl⟩
  refine tw ?_;exact hP _ ⟨23,h0,h0,[n%6],[List.take (Int.toNat 6) b],AA,rfl⟩
 refine tw ?_
 rcases Bc k' 2 with hc21|hc21
 ·refine tw ?_;exact hP _ ⟨24,h0,h0,[n%3,n/3%10],[],clo,rfl⟩
 refine tw ?_
 rcases Ar k' 2 with hc22|hc22
 ·subst hc22;refine tw ?_;exact hP _ ⟨28+n%2,h0,h0,[],[],AA,rfl⟩
 refine tw ?_
 rcases Ar k' 7 with hc23|hc23
 ·subst hc23;refine tw ?_;exact hP _ ⟨25,h0,h0,[],[],AA,rfl⟩
 refine tw ?_;exact hP _ ⟨23,h0,h0,[n%6],[List.take (Int.toNat 6) b],AA,rfl⟩
theorem WS(c:Int)(hs:List Int)(az:List (El AB))(is:List Int)(bs:List (List UInt8))(hi:Kp a k s)(hf:Few hs az is bs):EC E0 (.call 83 [av s,rq c hs az is bs] []) fun r=>∃ ns:List (List UInt8),(ns.length<=10/\∀ x∈ns,x.length<=32)/\r=some (.ret (.sl (.sl .u8) ns) []):=by
 refine G5 fun P hP=>tw ?_
 obtain⟨ns0,⟨h0_1,h0_2⟩,yy0⟩:=qh s c hs az is bs hi AA;refine Dv yy0 ?_;exact hP _ ⟨ns0,clo,rfl⟩
theorem Dn(c h:Int)(hs:List Int)(is:List Int)(bs:List (List UInt8))(m:Int)(b:List UInt8)(hi:Kp a k s)(hf:Few (h::hs) [] is bs)(hm:0<=m/\m<=4294967296)(hb:b.length<=1000):EC E0 (.call 39 [av s,rq c (h::hs) [] is bs,.i m,.sl .u8 b] []) fun r=>∃(y1:Int) (y2 y3:List UInt8),(y2.length<=1000/\y3.length<=1000)/\r=some (.ret (rq c (h::hs) [(y1,y2,y3)] is bs) []):=by
 refine G5 fun P hP=>tw ?_
 obtain⟨l0,h0_1,yy0⟩:=pU s h hi;refine Dv yy0 ?_
 rcases Ar (m%8) 0 with hc1|hc1
 ·refine tw ?_;exact hP _ ⟨0,[],BF (BF [] l0) [UInt8.ofNat 1],AA,rfl⟩
 refine tw ?_
 rcases Ar (m%8) 1 with hc2|hc2
 ·refine tw ?_;obtain⟨h3,⟨h3_1,h3_2⟩,yy3⟩:=Kr s (m/8) 1 hi AA;refine Dv yy3 ?_;obtain⟨e4,c4_1,n4_2,d4_3,u4_4,l4_5,m4_6,t4_7,b4_8,⟨h4_9,h4_10,h4_11⟩,yy4⟩:=Md s h3 hi AA;refine Dv yy4 ?_
  rcases Ar e4 0 with hc5|hc5
  ·subst hc5
   replace h4_9:=h4_9 rfl
   refine tw ?_
   rcases Ar c4_1 1 with hc6|hc6
   ·subst hc6;refine tw ?_;rw[FU _ _ AA];refine tw ?_;obtain⟨ns7,⟨h7_1,h7_2⟩,yy7⟩:=WS s c (h::hs) [] is bs hi AA;refine Dv yy7 ?_;obtain⟨l8,h8_1,yy8⟩:=cZ c (h::hs) [] is bs ns7 AA AA AA;refine Dv yy8 ?_;obtain⟨l9,h9_1,yy9⟩:=dK l0 l8 n4_2 (List.take (Int.toNat 16) b) AA AA AA AA;rw[yy9]
    conv=>arg 1;whnf
    try dsimp -iota -beta -eta -zeta only
    rw[drw zaw];conv=>arg 1;whnf
    rw[Aa zaa]
    conv=>arg 1;whnf
    rw[Ew zaa];rw[Aa zaa]
    conv=>arg 1;whnf
    rw[AL]
    conv=>arg 1;whnf
    rw[AL]
    conv=>arg 1;whnf
    try dsimp -iota -beta -eta -zeta only
    exact hP _ ⟨h3,List.take (Int.toNat 16) b,l9,AA,rfl⟩
   refine tw ?_;exact hP _ ⟨h3,[],l0,AA,rfl⟩
  refine tw ?_;exact hP _ ⟨h3,[],l0,AA,rfl⟩
 refine tw ?_
 rcases Ar (m%8) 2 with hc10|hc10
 ·refine tw ?_;obtain⟨h11,⟨h11_1,h11_2⟩,yy11⟩:=Kr s (m/8) 1 hi AA;refine Dv yy11 ?_;obtain⟨e12,c12_1,n12_2,d12_3,u12_4,l12_5,m12_6,t12_7,b12_8,⟨h12_9,h12_10,h12_11⟩,yy12⟩:=Md s h11 hi AA;refine Dv yy12 ?_
  rcases Ar e12 0 with hc13|hc13
  ·subst hc13
   replace h12_9:=h12_9 rfl
   refine tw ?_
   rcases Ar c12_1 1 with hc14|hc14
   ·subst hc14;refine tw ?_;rw[FU _ _ AA];refine tw ?_;obtain⟨ns15,⟨h15_1,h15_2⟩,yy15⟩:=WS s c (h::hs) [] is bs hi AA;refine Dv yy15 ?_;obtain⟨l16,h16_1,yy16⟩:=cZ c (h::hs) [] is bs ns15 AA AA AA;refine Dv yy16 ?_;obtain⟨l17,h17_1,yy17⟩:=dK l0 l16 n12_2 (List.take (Int.toNat 16) b) AA AA AA AA;refine Dv yy17 ?_
    rcases Ar (m%16) 2 with hc18|hc18
    ·refine tw ?_;exact hP _ ⟨h11,BF (BF [] (List.take (Int.toNat 16) b)) [UInt8.ofNat 1],l17,AA,rfl⟩
    rw[Aa zaa]
    conv=>arg 1;whnf
    rw[AL]
    conv=>arg 1;whnf
    rw[AL]
    conv=>arg 1;whnf
    try dsimp -iota -beta -eta -zeta only
    exact hP _ ⟨h11,List.take (Int.toNat 16) b,l17,AA,rfl⟩
   refine tw ?_;exact hP _ ⟨h11,[],l0,AA,rfl⟩
  refine tw ?_;exact hP _ ⟨h11,[],l0,AA,rfl⟩
 refine tw ?_
 rcases Ar (m%8) 3 with hc19|hc19
 ·refine tw ?_;obtain⟨h20,⟨h20_1,h20_2⟩,yy20⟩:=Kr s (m/8) 2 hi AA;refine Dv yy20 ?_;exact hP _ ⟨h20,[],l0,AA,rfl⟩
 refine tw ?_
 rcases Ar (m%8) 4 with hc21|hc21
 ·refine tw ?_;obtain⟨h22,⟨h22_1,h22_2⟩,yy22⟩:=Kr s (m/8) 2 hi AA;refine Dv yy22 ?_;exact hP _ ⟨h22,[],l0,AA,rfl⟩
 refine tw ?_;exact hP _ ⟨0,[],l0,AA,rfl⟩
end
section
attribute [local irreducible] BG DY CY nameB Eh Ef Az Ei Eo F5 Ff Fh Bg Io GI JD Jk JE Jh Ha NZ Na IJ
theorem A1G(k' n m:Int)(b:List UInt8)(hi:Kp a k s)(hq:0<=k'%48/\k'%48<=11)(hb:b.length<=140737488355328):EC E0 (.call 8 [av s,.i k',.i n,.i m,.sl .u8 b] []) fun r=>∃(c:Int) (hs:List Int) (az:List (El AB)) (is:List Int) (bs:List (List UInt8)),(Few hs az is bs)/\r=some (.ret (rq c hs az is bs) []):=by
 have hol:=hi.obl
 have hsl:=hi.ssl
 have hac:=hi.ac
 refine G5 fun P hP=>tw ?_
 rw[Ht _ _ zaa];refine tw ?_;rw[Ht _ _ zaa];refine tw ?_;rw[Ht _ _ zaa];refine tw ?_;rw[FU _ _ AA];refine tw ?_
 rcases Ar (k'%48) 0 with hc0|hc0
 ·refine tw ?_;refine hP _ ⟨4,[],[],[],[],?_,rfl⟩;exact CB
 refine tw ?_
 rcases Ar (k'%48) 1 with hc1|hc1
 ·refine tw ?_;refine hP _ ⟨5,[],[],[n%1073741824%3,n%1073741824/3%17],[],?_,rfl⟩;exact CB
 refine tw ?_
 rcases Ar (k'%48) 2 with hc2|hc2
 ·refine tv ?_;obtain⟨l3,⟨h3_1,h3_2⟩,yy3⟩:=rD s.ac (List.take (Int.toNat 60) b) AA AA;refine Dv yy3 ?_;refine hP _ ⟨6,[],[],[n%1073741824%16],l3,?_,rfl⟩;exact CB
 refine tw ?_
 rcases Ar (k'%48) 3 with hc4|hc4
 ·refine tv ?_;obtain⟨l5,⟨h5_1,h5_2⟩,yy5⟩:=rD s.ac (List.take (Int.toNat 60) b) AA AA;refine Dv yy5 ?_;refine hP _ ⟨6,[],[],[n%1073741824%16],l5,?_,rfl⟩;exact CB
 refine tw ?_
 rcases Ar (k'%48) 4 with hc6|hc6
 ·refine tw ?_;refine hP _ ⟨7,[],[],[n%1073741824%16],[List.take (Int.toNat 60) b],?_,rfl⟩;exact CB
 refine tw ?_
 rcases Ar (k'%48) 5 with hc7|hc7
 ·refine tw ?_;refine hP _ ⟨7,[],[],[n%1073741824%16],[List.take (Int.toNat 60) b],?_,rfl⟩;exact CB
 refine tw ?_
 rcases Ar (k'%48) 6 with hc8|hc8
 ·refine tw ?_;refine hP _ ⟨7,[],[],[n%1073741824%16],[List.take (Int.toNat 60) b],?_,rfl⟩;exact CB
 rw[Aa zaa]
 conv=>arg 1;whnf
 rw[AL]
 conv=>arg 1;whnf
 rcases Ar (k'%48) 7 with hc9|hc9
 ·refine tw ?_;refine hP _ ⟨8,[],[],[10+n%1073741824%6],[],?_,rfl⟩;exact CB
 refine tw ?_
 rcases Ar (k'%48) 8 with hc10|hc10
 ·rw[Dz zaa]
  conv=>arg 1;whnf
  rw[Aa zaa]
  conv=>arg 1;whnf
  rw[Aa zaa]
  conv=>arg 1;whnf
  try dsimp -iota -beta -eta -zeta only
  rw[F6 zaa];rw[AX];obtain⟨i111,i211_1,i311_2,o11_3,u11_4,d11_5,⟨h11_6,h11_7,h11_8,h11_9,h11_10⟩,yy11⟩:=Qu s (n%1073741824/3) (List.take (Int.toNat 60) b) hi AA AA;refine Dv yy11 ?_;obtain⟨y112,y212_1,y312_2,⟨h12_3,h12_4⟩,yy12⟩:=Dn s 9 (n%1073741824%3) [] [i111,i211_1,i311_2] [o11_3,u11_4,d11_5] (m%1073741824) (List.take (Int.toNat 60) b) hi zaS AA AA;refine Dv yy12 ?_;refine hP _ ⟨9,[n%1073741824%3],[(y112,y212_1,y312_2)],[i111,i211_1,i311_2],[o11_3,u11_4,d11_5],?_,rfl⟩;exact CB
 refine tw ?_
 rcases Ar (k'%48) 9 with hc13|hc13
 ·rw[Dz zaa]
  conv=>arg 1;whnf
  rw[Aa zaa]
  conv=>arg 1;whnf
  rw[Aa zaa]
  conv=>arg 1;whnf
  try dsimp -iota -beta -eta -zeta only
  rw[F6 zaa];rw[AX];obtain⟨i114,i214_1,i314_2,o14_3,u14_4,d14_5,⟨h14_6,h14_7,h14_8,h14_9,h14_10⟩,yy14⟩:=Qu s (n%1073741824/3) (List.take (Int.toNat 60) b) hi AA AA;refine Dv yy14 ?_;obtain⟨y115,y215_1,y315_2,⟨h15_3,h15_4⟩,yy15⟩:=Dn s 9 (n%1073741824%3) [] [i114,i214_1,i314_2] [o14_3,u14_4,d14_5] (m%1073741824) (List.take (Int.toNat 60) b) hi zaS AA AA;refine Dv yy15 ?_;refine hP _ ⟨9,[n%1073741824%3],[(y115,y215_1,y315_2)],[i114,i214_1,i314_2],[o14_3,u14_4,d14_5],?_,rfl⟩;exact CB
 refine tw ?_
 rcases Ar (k'%48) 10 with hc16|hc16
 ·rw[Dz zaa]
  conv=>arg 1;whnf
  rw[Aa zaa]
  conv=>arg 1;whnf
  rw[Aa zaa]
  conv=>arg 1;whnf
  try dsimp -iota -beta -eta -zeta only
  rw[F6 zaa];rw[AX];obtain⟨i117,i217_1,i317_2,o17_3,u17_4,d17_5,⟨h17_6,h17_7,h17_8,h17_9,h17_10⟩,yy17⟩:=Qu s (n%1073741824/3) (List.take (Int.toNat 60) b) hi AA AA;refine Dv yy17 ?_;obtain⟨y118,y218_1,y318_2,⟨h18_3,h18_4⟩,yy18⟩:=Dn s 9 (n%1073741824%3) [] [i117,i217_1,i317_2] [o17_3,u17_4,d17_5] (m%1073741824) (List.take (Int.toNat 60) b) hi zaS AA AA;refine Dv yy18 ?_;refine hP _ ⟨9,[n%1073741824%3],[(y118,y218_1,y318_2)],[i117,i217_1,i317_2],[o17_3,u17_4,d17_5],?_,rfl⟩;exact CB
 rw[Aa zaa]
 conv=>arg 1;whnf
 rw[Dz zaa]
 conv=>arg 1;whnf
 rw[Aa zaa]
 conv=>arg 1;whnf
 rw[Aa zaa]
 conv=>arg 1;whnf
 try dsimp -iota -beta -eta -zeta only
 rw[F6 zaa];rw[AX];obtain⟨i119,i219_1,i319_2,o19_3,u19_4,d19_5,⟨h19_6,h19_7,h19_8,h19_9,h19_10⟩,yy19⟩:=Qu s (n%1073741824/3) (List.take (Int.toNat 60) b) hi AA AA;refine Dv yy19 ?_;obtain⟨y120,y220_1,y320_2,⟨h20_3,h20_4⟩,yy20⟩:=Dn s 9 (n%1073741824%3) [] [i119,i219_1,i319_2] [o19_3,u19_4,d19_5] (m%1073741824) (List.take (Int.toNat 60) b) hi zaS AA AA;refine Dv yy20 ?_;refine hP _ ⟨9,[n%1073741824%3],[(y120,y220_1,y320_2)],[i119,i219_1,i319_2],[o19_3,u19_4,d19_5],?_,rfl⟩;exact CB
end
end Go.Proofs.YtlpkjhhfhannpaaGreatDoor
