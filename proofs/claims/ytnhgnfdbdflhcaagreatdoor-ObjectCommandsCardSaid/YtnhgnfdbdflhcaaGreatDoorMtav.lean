/-
  Own texts, laid together for this claim: contracts of functions of the program and its references, used by the statements of this seat.
-/
import Derived.Test.YtnhgnfdbdflhcaaGreatDoorMtab
import Derived.Test.YtnhgnfdbdflhcaaGreatDoorMtae
import Derived.Test.YtnhgnfdbdflhcaaGreatDoorMtaf
import Derived.Test.YtnhgnfdbdflhcaaGreatDoorMtag
import Derived.Test.YtnhgnfdbdflhcaaGreatDoorMtah
import Derived.Test.YtnhgnfdbdflhcaaGreatDoorMtaj
import Derived.Test.YtnhgnfdbdflhcaaGreatDoorMtao
import Derived.Test.YtnhgnfdbdflhcaaGreatDoorMtaq
import Derived.Test.YtnhgnfdbdflhcaaGreatDoorMtas
set_option linter.all false
set_option maxHeartbeats 40000000
set_option maxRecDepth 100000
namespace Go.Ax
abbrev Qu(a:Att):List AV:=[.sl .u8 a.key,.sl .u8 a.nonce,.i a.resets,.i a.restarts,.i a.clock,.b a.safe,.i a.updates,.i a.s0,.i a.s1,.sl .u8 a.digest]
theorem CO:Oz.length=4:=rfl
end Go.Ax
namespace Go.Proofs.YtnhgnfdbdflhcaaGreatDoor
open Go Go.Ax Go.Eng
variable {a k:Int}(s:MS)(h:Int)
section
attribute [local irreducible] Cc Dn D7 DU DD BA Dp F7 FY FD Ez Ci CS DK DV and' DW DL C9 BR Bh CB CG BG BI Aw BC Dq Fh Dt ER DX Bl CE Bv Bz Bi Az Bg BK Bj BO Du Bc DF BZ BM Cj Di fits Dv Dk Ac Am BH
attribute [local irreducible] Dw CJ Be nameB EL Eh Ar
theorem A3k:(Zl h).length<=32:=by
 unfold Zl;split
 ·simp
 ·rw[A8];exact Nat.le_refl _
theorem Qi(x:Idx):(VE x).length=32:=A8 _
theorem A3l{key label ctx:List UInt8}{n:Int}(hn:0<=n/\n<=32):(Dw key label ctx n).length<=32:=by
 obtain⟨m,rfl⟩:∃ m:Nat,n=m:=⟨n.toNat,by omega⟩;rw[Rx zaa];omega
theorem TG(s:MS)(h:Int){a k:Int}(hi:Kp a k s):∀(n:Nat) (j:Int),0<=j->j+n=s.ix.length->Ah E0 (.loop 148 0 0 1 [(1,.i h),(2,.pa 0 0),(5,.i j)] [(0,some (.var (cv s)))]) fun r=>(∃ i:Int,(0<=i/\i<s.ix.length)/\r=some (.fin .ret 0 [(4,.i i)] []))\/r=some (.fin (.exit 0) 0 [] [])
 | 0,j,h0,hj=>by
  have hl:=hi.ixl
  refine CU fun P hP=>?_
  refine tw ?_;exact hP _ (Or.inr rfl)
 | n+1,j,h0,hj=>by
  have hl:=hi.ixl
  have ih:=TG s h hi n (j+1) zaa zaa
  refine CU fun P hP=>?_
  refine tw ?_;obtain⟨⟨x0a,x0b,x0c,x0d,x0e,x0f,x0g,x0h⟩,f0,g0⟩:=Dc hi.ixm (i:=j) A7;simp only[Gh,GY,Gz,FZ,CZ,Df,Dh,DC] at f0;rw[g0];refine tw ?_
  rcases AL h (256+x0a) with hc1|hc1
  ·subst hc1;refine tw ?_;exact hP _ (Or.inl ⟨j,A7,rfl⟩)
  refine tw ?_;exact hP _ ih
theorem VL(s:MS)(h:Int){a k:Int}(hi:Kp a k s):∀(n:Nat) (j:Int),0<=j->j+n=s.ob.length->Ah E0 (.loop 59 0 0 1 [(1,.i h),(2,.pa 0 0),(5,.i j)] [(0,some (.var (cv s)))]) fun r=>(∃ i:Int,(0<=i/\i<s.ob.length)/\r=some (.fin .ret 0 [(4,.i i)] []))\/r=some (.fin (.exit 0) 0 [] [])
 | 0,j,h0,hj=>by
  have hl:=hi.obl
  refine CU fun P hP=>?_
  refine tw ?_;exact hP _ (Or.inr rfl)
 | n+1,j,h0,hj=>by
  have hl:=hi.obl
  have ih:=VL s h hi n (j+1) zaa zaa
  refine CU fun P hP=>?_
  refine tw ?_
  rcases AL h (512+j) with hc0|hc0
  ·subst hc0;refine tw ?_;obtain⟨⟨⟨x1a,x1b,x1c,x1d,x1e⟩,⟨x1f,x1g,x1h⟩,x1i⟩,f1,g1⟩:=Dc hi.obm (i:=j) A7;simp only[Gh,GY,Gz,FZ,CZ,Df,Dh,DC] at f1;rw[g1];refine tw ?_
   rcases AX x1a 0 with hc2|hc2
   ·refine tw ?_;exact hP _ (Or.inl ⟨j,A7,rfl⟩)
   subst hc2;refine tw ?_;exact hP _ ih
  refine tw ?_;exact hP _ ih
theorem Xb(l:List Int)(n:Int)(hl:l.length<=100000):∀(m:Nat) (j:Int),0<=j->j+m=l.length->Ah E0 (.loop 297 0 0 0 [(0,.sl .i64 l),(1,.i n),(5,.i j)] []) fun r=>r=some (.fin .ret 0 [(4,.b true)] [])\/r=some (.fin (.exit 0) 0 [] [])
 | 0,j,h0,hj=>by
  refine CU fun P hP=>?_
  refine tw ?_;exact hP _ (Or.inr rfl)
 | m+1,j,h0,hj=>by
  have ih:=Xb l n hl m (j+1) zaa zaa
  refine CU fun P hP=>?_
  refine tw ?_;obtain⟨x0,m0,g0⟩:=EY (l:=l) (i:=j) zaa;rw[g0];refine tw ?_
  rcases AL x0 n with hc1|hc1
  ·subst hc1;refine tw ?_;exact hP _ (Or.inl rfl)
  refine tw ?_;exact hP _ ih
theorem I9(hi:Kp a k s):Ah E0 (.call 148 [av s,.i h] []) fun r=>∃ i:Int,(-1<=i/\i<s.ix.length)/\r=some (.ret (.i i) []):=by
 have hl:=hi.ixl
 refine CU fun P hP=>tw ?_
 obtain(⟨i0,⟨h0_1,h0_2⟩,yy0⟩|yy0):=TG s h hi (Int.toNat (↑s.ix.length-(0))) 0 A7 zaa
 ·refine Aq yy0 ?_;exact hP _ ⟨i0,A7,rfl⟩
 refine Aq yy0 ?_;exact hP _ ⟨-1,A7,rfl⟩
theorem Kv(hi:Kp a k s):Ah E0 (.call 59 [av s,.i h] []) fun r=>∃ i:Int,(-1<=i/\i<s.ob.length)/\r=some (.ret (.i i) []):=by
 have hl:=hi.obl
 refine CU fun P hP=>tw ?_
 obtain(⟨i0,⟨h0_1,h0_2⟩,yy0⟩|yy0):=VL s h hi (Int.toNat (↑s.ob.length-(0))) 0 A7 zaa
 ·refine Aq yy0 ?_;exact hP _ ⟨i0,A7,rfl⟩
 refine Aq yy0 ?_;exact hP _ ⟨-1,A7,rfl⟩
theorem U8(hi:Kp a k s)(hh : -100000<=h/\h<=1099511627776):Ah E0 (.call 197 [av s,.i h] []) fun r=>∃ i:Int,(-1<=i/\i<s.ss.length/\(i<0\/i=h-768))/\r=some (.ret (.i i) []):=by
 have hl:=hi.ssl
 refine CU fun P hP=>?_
 refine tv ?_
 rcases AZ h 768 with hc0|hc0
 ·refine tw ?_;exact hP _ ⟨-1,A7,rfl⟩
 refine tw ?_
 rcases DJ (↑s.ss.length) (h-768) with hc1|hc1
 ·refine tw ?_;exact hP _ ⟨-1,A7,rfl⟩
 refine tw ?_;obtain⟨⟨x2a,x2b,x2c,x2d,x2e,x2f,x2g,x2h⟩,f2,g2⟩:=Dc hi.ssm (i:=h-768) A7;simp only[Gh,GY,Gz,FZ,CZ,Df,Dh,DC] at f2;rw[g2];refine tw ?_
 rcases AL x2a 0 with hc3|hc3
 ·subst hc3;refine tw ?_;exact hP _ ⟨-1,A7,rfl⟩
 refine tw ?_;exact hP _ ⟨h-768,A7,rfl⟩
theorem Iy(hi:Kp a k s)(hh : -100000<=h/\h<=1099511627776):Ah E0 (.call 145 [av s,.i h] []) fun r=>∃(e c:Int) (n d:List UInt8) (u l m t:Int) (b:Bool),((e=0->0<=h-768/\h-768<s.ss.length)/\n.length<=32/\d.length<=32)/\r=some (.ret (.tup [seA c n d u l m t b,.i e]) []):=by
 have hl:=hi.ssl
 refine CU fun P hP=>tw ?_
 obtain⟨i0,⟨h0_1,h0_2,h0_3⟩,yy0⟩:=U8 s h hi A7;refine Aq yy0 ?_
 rcases AZ i0 0 with hc1|hc1
 ·refine tw ?_;exact hP _ ⟨8,0,[],[],0,0,0,0,false,A7,rfl⟩
 refine tw ?_;obtain⟨⟨x2a,x2b,x2c,x2d,x2e,x2f,x2g,x2h⟩,f2,g2⟩:=Dc hi.ssm (i:=i0) A7;simp only[Gh,GY,Gz,FZ,CZ,Df,Dh,DC] at f2;rw[g2];refine tw ?_;exact hP _ ⟨0,x2a,x2b,x2c,x2d,x2e,x2f,x2g,x2h,A7,rfl⟩
theorem Kw(l:List Int)(n:Int)(hl:l.length<=100000):Ah E0 (.call 297 [.sl .i64 l,.i n] []) fun r=>∃ b:Bool,r=some (.ret (.b b) []):=by
 refine CU fun P hP=>tw ?_
 obtain(yy0|yy0):=Xb l n A7 (Int.toNat (↑l.length-(0))) 0 A7 zaa
 ·refine Aq yy0 ?_;exact hP _ ⟨true,rfl⟩
 refine Aq yy0 ?_;exact hP _ ⟨false,rfl⟩
theorem ak(o x y:Int):Ah E0 (.call 319 [.i o,.i x,.i y] []) fun r=>∃ b:Bool,r=some (.ret (.b b) []):=by
 refine CU fun P hP=>tw ?_
 rcases AL o 0 with hc0|hc0
 ·subst hc0;refine tw ?_;exact hP _ ⟨F7 x y,rfl⟩
 refine tw ?_
 rcases AL o 1 with hc1|hc1
 ·subst hc1;refine tw ?_;exact hP _ ⟨FY x y,rfl⟩
 refine tw ?_
 rcases AL o 2 with hc2|hc2
 ·subst hc2;refine tw ?_;exact hP _ ⟨FD x y,rfl⟩
 refine tw ?_;exact hP _ ⟨Ez y x,rfl⟩
theorem VM(n:Int)(hi:Kp a k s)(hn:0<=n/\n<=32)(hk:k<=900):Ah E0 (.call 129 [av s,.i n] []) fun r=>∃(t:MS) (b:List UInt8),(Kp a (k+1) t/\t={s with dr:=s.dr+1}/\b.length<=32)/\r=some (.ret (.tup [av t,.sl .u8 b]) []):=by
 have hl:=hi.en
 have hd:=hi.dr
 refine CU fun P hP=>tw ?_
 rw[CP _ _ _ A7];refine tw ?_;rw[CP _ _ _ A7];refine tw ?_;rw[CP _ _ _ A7];refine tv ?_;rw[show strOf {data := #[114,97,110,100,111,109]}=mZ from rfl,Es _ _ _ _ zaa zal zbM]
 refine tw ?_;refine hP _ ⟨{s with dr:=s.dr+1},Dw s.en mZ (BV (BV (BV [] 8 s.re) 8 s.rs) 8 s.dr) n,?_,rfl⟩;exact⟨{hi.up (k':=k+1) zaa with dr:=by show 0<=s.dr+1/\s.dr+1<=k+1;omega},rfl,A3l hn⟩
theorem jB(hi:Kp a k s):Ah E0 (.call 246 [av s,.i h] []) fun r=>∃ b:Bool,r=some (.ret (.b b) []):=by
 refine CU fun P hP=>tw ?_
 rcases DJ 0 h with hc0|hc0
 ·refine tw ?_
  rcases DJ h 3 with hc1|hc1
  ·refine tw ?_;exact hP _ ⟨true,rfl⟩
  refine tw ?_;obtain⟨i2,⟨h2_1,h2_2⟩,yy2⟩:=I9 s h hi;refine Aq yy2 ?_
  rcases DJ 0 i2 with hc3|hc3
  ·refine tw ?_;exact hP _ ⟨true,rfl⟩
  refine tw ?_;obtain⟨i4,⟨h4_1,h4_2⟩,yy4⟩:=Kv s h hi;refine Aq yy4 ?_;exact hP _ ⟨Ez 0 i4,rfl⟩
 refine tw ?_;obtain⟨i5,⟨h5_1,h5_2⟩,yy5⟩:=I9 s h hi;refine Aq yy5 ?_
 rcases DJ 0 i5 with hc6|hc6
 ·refine tw ?_;exact hP _ ⟨true,rfl⟩
 refine tw ?_;obtain⟨i7,⟨h7_1,h7_2⟩,yy7⟩:=Kv s h hi;refine Aq yy7 ?_;exact hP _ ⟨Ez 0 i7,rfl⟩
theorem U9(hi:Kp a k s):Ah E0 (.call 245 [av s,.i h] []) fun r=>∃ l:List UInt8,(l.length<=32)/\r=some (.ret (.sl .u8 l) []):=by
 have hl:=hi.ixl
 have hl':=hi.obl
 refine CU fun P hP=>tw ?_
 obtain⟨i0,⟨h0_1,h0_2⟩,yy0⟩:=I9 s h hi;refine Aq yy0 ?_
 rcases DJ 0 i0 with hc1|hc1
 ·refine tw ?_;obtain⟨⟨x2a,x2b,x2c,x2d,x2e,x2f,x2g,x2h⟩,f2,g2⟩:=Dc hi.ixm (i:=i0) A7;simp only[Gh,GY,Gz,FZ,CZ,Df,Dh,DC] at f2;rw[g2];refine tw ?_;rw[dZ (hp:=A7) ..];refine tw ?_
  refine hP _ ⟨VE {n:=x2a,kind:=x2b,attr:=x2c,size:=x2d,policy:=x2e,auth:=x2f,written:=x2g,data:=x2h},?_,rfl⟩;(simp only[Qi,A8,Aj,Ae,Af,Aa,BP,AB,AC,AU,AO,Ap,LL] at *<;>omega)
 refine tw ?_;obtain⟨i3,⟨h3_1,h3_2⟩,yy3⟩:=Kv s h hi;refine Aq yy3 ?_
 rcases DJ 0 i3 with hc4|hc4
 ·refine tw ?_;obtain⟨⟨⟨x5a,x5b,x5c,x5d,x5e⟩,⟨x5f,x5g,x5h⟩,x5i⟩,f5,g5⟩:=Dc hi.obm (i:=i3) A7;simp only[Gh,GY,Gz,FZ,CZ,Df,Dh,DC] at f5;rw[g5];refine tw ?_;rw[GR _ _ _ _ _ A7 A7];refine tw ?_;exact hP _ ⟨nameB {kind:=x5a,attr:=x5b,height:=x5c,policy:=x5d,unique:=x5e},A7,rfl⟩
 refine tw ?_;rw[tV _];refine tw ?_;refine hP _ ⟨Zl h,?_,rfl⟩;exact A3k _
theorem Qj(hi:Kp a k s):Ah E0 (.call 149 [av s,.i h] []) fun r=>∃ l:List UInt8,(l.length<=32)/\r=some (.ret (.sl .u8 l) []):=by
 have hl:=hi.ixl
 have hl':=hi.obl
 have hl2:=hi.aul
 refine CU fun P hP=>tw ?_
 obtain⟨i0,⟨h0_1,h0_2⟩,yy0⟩:=I9 s h hi;refine Aq yy0 ?_
 rcases DJ 0 i0 with hc1|hc1
 ·refine tw ?_;obtain⟨⟨x2a,x2b,x2c,x2d,x2e,x2f,x2g,x2h⟩,f2,g2⟩:=Dc hi.ixm (i:=i0) A7;simp only[Gh,GY,Gz,FZ,CZ,Df,Dh,DC] at f2;rw[g2];refine tw ?_;exact hP _ ⟨x2f,A7,rfl⟩
 refine tw ?_;obtain⟨i3,⟨h3_1,h3_2⟩,yy3⟩:=Kv s h hi;refine Aq yy3 ?_
 rcases DJ 0 i3 with hc4|hc4
 ·refine tw ?_;obtain⟨⟨⟨x5a,x5b,x5c,x5d,x5e⟩,⟨x5f,x5g,x5h⟩,x5i⟩,f5,g5⟩:=Dc hi.obm (i:=i3) A7;simp only[Gh,GY,Gz,FZ,CZ,Df,Dh,DC] at f5;rw[g5];refine tw ?_;exact hP _ ⟨x5f,A7,rfl⟩
 refine tw ?_
 rcases DJ 0 h with hc6|hc6
 ·refine tw ?_
  rcases AZ h (↑s.au.length) with hc7|hc7
  ·refine tw ?_;obtain⟨x8,f8,g8⟩:=Dc hi.aum (i:=h) A7;rw[g8];refine tw ?_;exact hP _ ⟨x8,A7,rfl⟩
  refine tw ?_;exact hP _ ⟨[],A7,rfl⟩
 refine tw ?_;exact hP _ ⟨[],A7,rfl⟩
theorem MK(hi:Kp a k s):Ah E0 (.call 279 [av s,.i h] []) fun r=>∃ l:List UInt8,(l.length<=32)/\r=some (.ret (.sl .u8 l) []):=by
 have hl:=hi.ixl
 have hl':=hi.obl
 refine CU fun P hP=>tw ?_
 obtain⟨i0,⟨h0_1,h0_2⟩,yy0⟩:=I9 s h hi;refine Aq yy0 ?_
 rcases DJ 0 i0 with hc1|hc1
 ·refine tw ?_;obtain⟨⟨x2a,x2b,x2c,x2d,x2e,x2f,x2g,x2h⟩,f2,g2⟩:=Dc hi.ixm (i:=i0) A7;simp only[Gh,GY,Gz,FZ,CZ,Df,Dh,DC] at f2;rw[g2];refine tw ?_;exact hP _ ⟨x2e,A7,rfl⟩
 refine tw ?_;obtain⟨i3,⟨h3_1,h3_2⟩,yy3⟩:=Kv s h hi;refine Aq yy3 ?_
 rcases DJ 0 i3 with hc4|hc4
 ·refine tw ?_;obtain⟨⟨⟨x5a,x5b,x5c,x5d,x5e⟩,⟨x5f,x5g,x5h⟩,x5i⟩,f5,g5⟩:=Dc hi.obm (i:=i3) A7;simp only[Gh,GY,Gz,FZ,CZ,Df,Dh,DC] at f5;rw[g5];refine tw ?_;exact hP _ ⟨x5d,A7,rfl⟩
 refine tw ?_;exact hP _ ⟨[],A7,rfl⟩
theorem Pj(hi:Kp a k s):Ah E0 (.call 281 [av s,.i h] []) fun r=>∃ b:Bool,r=some (.ret (.b b) []):=by
 have hl:=hi.ixl
 have hl':=hi.obl
 refine CU fun P hP=>tw ?_
 obtain⟨i0,⟨h0_1,h0_2⟩,yy0⟩:=I9 s h hi;refine Aq yy0 ?_
 rcases DJ 0 i0 with hc1|hc1
 ·refine tw ?_;obtain⟨⟨x2a,x2b,x2c,x2d,x2e,x2f,x2g,x2h⟩,f2,g2⟩:=Dc hi.ixm (i:=i0) A7;simp only[Gh,GY,Gz,FZ,CZ,Df,Dh,DC] at f2;rw[g2];refine tw ?_;exact hP _ ⟨F7 (BA BinOp.and x2c 64) 0,rfl⟩
 refine tw ?_;obtain⟨i3,⟨h3_1,h3_2⟩,yy3⟩:=Kv s h hi;refine Aq yy3 ?_
 rcases DJ 0 i3 with hc4|hc4
 ·refine tw ?_;obtain⟨⟨⟨x5a,x5b,x5c,x5d,x5e⟩,⟨x5f,x5g,x5h⟩,x5i⟩,f5,g5⟩:=Dc hi.obm (i:=i3) A7;simp only[Gh,GY,Gz,FZ,CZ,Df,Dh,DC] at f5;rw[g5];refine tw ?_;exact hP _ ⟨F7 (BA BinOp.and x5b 2) 0,rfl⟩
 refine tw ?_;exact hP _ ⟨false,rfl⟩
theorem EP(i:Int)(c:Int)(n d:List UInt8)(u l m t:Int)(b:Bool)(hi:Kp a k s)(hj:0<=i/\i<s.ss.length)(hx:Dh n d l):Ah E0 (.call 198 [av s,.i i,seA c n d u l m t b] []) fun r=>∃ t:MS,(Kp a k t/\t.ob=s.ob/\t.sd=s.sd/\t.au=s.au)/\r=some (.ret (av t) []):=by
 have hl:=hi.ssl
 have hs:=dS (i:=i) (x:=((c,n,d,u,l,m,t,b):El sesT)) (p:=Gz) (l:=BM [] s.ss) (by rw[Ag];exact hi.ssm) hx
 have hl3:(BM [] s.ss).length=3:=by rw[Ag];exact hl
 refine CU fun P hP=>tw ?_
 obtain⟨x0,m0,g0⟩:=EY (l:=BM [] s.ss) (i:=i) zaa
 obtain⟨x0a,x0b,x0c,x0d,x0e,x0f,x0g,x0h⟩:=x0;rw[g0];refine tw ?_;refine hP _ ⟨{s with ss:=Bc (BM [] s.ss) i (c,n,d,u,l,m,t,b)},?_,rfl⟩;exact⟨{hi with ssl:=hs.1.trans hl3,ssm:=hs.2},rfl,rfl,rfl⟩
theorem nS(hi:Kp a k s)(hh : -100000<=h/\h<=1099511627776):Ah E0 (.call 135 [av s,.i h] []) fun r=>∃(e:Int) (t:MS),(e=0->Kp a k t/\t.ob=s.ob)/\r=some (.ret (.tup [av t,.i e]) []):=by
 have hl:=hi.ssl
 refine CU fun P hP=>tw ?_
 obtain⟨i0,⟨h0_1,h0_2,h0_3⟩,yy0⟩:=U8 s h hi A7;refine Aq yy0 ?_
 rcases AZ i0 0 with hc1|hc1
 ·refine tw ?_;exact hP _ ⟨8,⟨[],[],[],0,0,0,0,false,[],0,0,[],0,0,0,0,0,0,[],false,false,[],0,0,false,0,[],[],[],[]⟩,A7,rfl⟩
 refine tw ?_
 obtain⟨t2,⟨h2_1,h2_2,h2_3,h2_4⟩,yy2⟩:=EP s i0 0 [] [] 0 0 0 0 false hi A7 (by(simp only[Dh,CZ,Df,DC]<;>(simp only[Qi,A8,Aj,Ae,Af,Aa,BP,AB,AC,AU,AO,Ap,LL] at *<;>omega)))
 refine Aq yy2 ?_;exact hP _ ⟨0,t2,clo,rfl⟩
theorem Qk(hi:Kp a k s)(hh : -100000<=h/\h<=1099511627776):Ah E0 (.call 311 [av s,.i h] []) fun r=>∃ i:Int,(-1<=i/\i<s.ss.length)/\r=some (.ret (.i i) []):=by
 have hl:=hi.ssl
 refine CU fun P hP=>tw ?_
 obtain⟨i0,⟨h0_1,h0_2,h0_3⟩,yy0⟩:=U8 s h hi A7;refine Aq yy0 ?_
 rcases DJ 0 i0 with hc1|hc1
 ·refine tw ?_;obtain⟨⟨x2a,x2b,x2c,x2d,x2e,x2f,x2g,x2h⟩,f2,g2⟩:=Dc hi.ssm (i:=i0) A7;simp only[Gh,GY,Gz,FZ,CZ,Df,Dh,DC] at f2;rw[g2];refine tw ?_
  rcases AL x2a 1 with hc3|hc3
  ·subst hc3;refine tw ?_;exact hP _ ⟨-1,A7,rfl⟩
  refine tw ?_;exact hP _ ⟨i0,A7,rfl⟩
 refine tw ?_;exact hP _ ⟨i0,A7,rfl⟩
end
end Go.Proofs.YtnhgnfdbdflhcaaGreatDoor
namespace Go.Proofs.YtnhgnfdbdflhcaaGreatDoor
open Go Go.Ax
variable (a:Att)
section
attribute [local irreducible] Cc Dn D7 DU DD BA Dp F7 FY FD Ez Ci CS DK DV and' DW DL C9 BR Bh CB CG BG BI Aw BC Dq Fh Dt ER DX Bl CE Bv Bz Bi Az Bg BK Bj BO Du Bc DF BZ BM Cj Di fits Dv Dk Ac Am BH
theorem aS:Y E0 (.call 109 [] [])=some (.ret (.sl .u8 Oz) []):=by
 refine tq ?_
 rfl
theorem NS(b:List UInt8)(a:Att)(s0 s1:Int)(hb:b.length<=1000000):Y E0 (.loop 47 0 0 2 [(1,.pa 0 0),(3,.nm 1),(37,.agg [.i s0,.i s1]),(38,.i 0)] [(0,some (.var (Qu a))),(1,some (.row 5 .u8 b))])=some (.fin (.exit 0) 2 [(1,.pa 0 0),(3,.nm 1)] [(0,some (.var (Qu a))),(1,some (.row 5 .u8 (BV (BV b 2 s0) 2 s1)))]):=by
 dsimp only[Qu]
 refine tq ?_;rw[GN _ _ _ A7];refine tq ?_;refine tq ?_;rw[GN _ _ _ zaf];refine tq ?_;exact tq rfl
theorem TQ(hk:a.key.length<=100000)(hn:a.nonce.length<=100000)(hd:a.digest.length<=100000):Y E0 (.call 47 [.agg (Qu a)] [])=some (.ret (.sl .u8 (FU a)) []):=by
 obtain⟨key,nonce,resets,restarts,clock,safe,updates,s0,s1,digest⟩:=a
 simp only at hk hn hd
 dsimp only[Qu]
 cases safe
 ·have hlp:=fun b hb=>NS b ⟨key,nonce,resets,restarts,clock,false,updates,s0,s1,digest⟩ s0 s1 hb
  dsimp only[Qu] at hlp
  refine tq ?_;rw[KL _ _ A7];refine tq ?_;rw[KL _ _ zaf];refine tq ?_;rw[GN _ _ _ zaf];refine tq ?_;rw[GN _ _ _ zaf];refine tq ?_;rw[GN _ _ _ zaf];refine tq ?_;rw[GN _ _ _ zaf];refine tq ?_;rw[GN _ _ _ zaf];refine tq ?_
  rw[hlp _ zaV]
  conv=>lhs;whnf
  rw[Dy zaf]
  conv=>lhs;whnf
  rw[Ag];rfl
 ·have hlp:=fun b hb=>NS b ⟨key,nonce,resets,restarts,clock,true,updates,s0,s1,digest⟩ s0 s1 hb
  dsimp only[Qu] at hlp
  refine tq ?_;rw[KL _ _ A7];refine tq ?_;rw[KL _ _ zaf];refine tq ?_;rw[GN _ _ _ zaf];refine tq ?_;rw[GN _ _ _ zaf];refine tq ?_;rw[GN _ _ _ zaf];refine tq ?_;rw[GN _ _ _ zaf];refine tq ?_;rw[GN _ _ _ zaf];refine tq ?_
  rw[hlp _ zaV]
  conv=>lhs;whnf
  rw[Dy zaf]
  conv=>lhs;whnf
  rw[Ag];rfl
theorem bF(hk:a.key.length<=100000)(hn:a.nonce.length<=100000)(hd:a.digest.length<=100000):Y E0 (.call 55 [.agg (Qu a)] [])=some (.ret (.nm 0) [some (.row 5 .u8 (FU a))]):=by
 obtain⟨key,nonce,resets,restarts,clock,safe,updates,s0,s1,digest⟩:=a
 simp only at hk hn hd
 dsimp only[Qu]
 cases safe
 ·refine tq ?_;rw[aS];refine tq ?_;rw[GM _ _ A7];refine tq ?_;rw[GM _ _ zaf];refine tq ?_;rw[CP _ _ _ zaf];refine tq ?_;rw[CP _ _ _ zaf];refine tq ?_;rw[CP _ _ _ zaf]
  conv=>lhs;whnf
  try dsimp -iota -beta -eta -zeta only
  rw[drw zas];conv=>lhs;whnf
  rw[Ad]
  conv=>lhs;whnf
  rw[Dy zaf]
  conv=>lhs;whnf
  try dsimp -iota -beta -eta -zeta only
  rw[AQ];rw[CP _ _ _ zaf];refine tq ?_;rw[CP _ _ _ zaf];refine tq ?_;rw[CP _ _ _ zaf]
  conv=>lhs;whnf
  rw[Dy zaf]
  conv=>lhs;whnf
  try dsimp -iota -beta -eta -zeta only
  rw[drw zas];conv=>lhs;whnf
  simp only[Ag,FU,cond_false,cond_true,A2Z,A2Y,FP];rfl
 ·refine tq ?_;rw[aS];refine tq ?_;rw[GM _ _ A7];refine tq ?_;rw[GM _ _ zaf];refine tq ?_;rw[CP _ _ _ zaf];refine tq ?_;rw[CP _ _ _ zaf];refine tq ?_;rw[CP _ _ _ zaf]
  conv=>lhs;whnf
  try dsimp -iota -beta -eta -zeta only
  rw[drw zas];conv=>lhs;whnf
  rw[Ad]
  conv=>lhs;whnf
  rw[Dy zaf]
  conv=>lhs;whnf
  try dsimp -iota -beta -eta -zeta only
  rw[AQ];rw[CP _ _ _ zaf];refine tq ?_;rw[CP _ _ _ zaf];refine tq ?_;rw[CP _ _ _ zaf]
  conv=>lhs;whnf
  rw[Dy zaf]
  conv=>lhs;whnf
  try dsimp -iota -beta -eta -zeta only
  rw[drw zas];conv=>lhs;whnf
  simp only[Ag,FU,cond_false,cond_true,A2Z,A2Y,FP];rfl
end
end Go.Proofs.YtnhgnfdbdflhcaaGreatDoor
