/-
  Own texts, laid together for this claim: contracts of functions of the program and its references, used by the statements of this seat.
-/
import Derived.Test.YtnhgnfdbdflhcaaGreatDoorMtab
import Derived.Test.YtnhgnfdbdflhcaaGreatDoorMtad
import Derived.Test.YtnhgnfdbdflhcaaGreatDoorMtae
import Derived.Test.YtnhgnfdbdflhcaaGreatDoorMtaf
import Derived.Test.YtnhgnfdbdflhcaaGreatDoorMtah
import Derived.Test.YtnhgnfdbdflhcaaGreatDoorMtai
import Derived.Test.YtnhgnfdbdflhcaaGreatDoorMtaj
import Derived.Test.YtnhgnfdbdflhcaaGreatDoorMtan
import Derived.Test.YtnhgnfdbdflhcaaGreatDoorMtas
import Derived.Test.YtnhgnfdbdflhcaaGreatDoorMtav
import Derived.Test.YtnhgnfdbdflhcaaGreatDoorMtba
import Derived.Test.YtnhgnfdbdflhcaaGreatDoorMtbc
set_option linter.all false
set_option maxHeartbeats 40000000
set_option maxRecDepth 100000
namespace Go.Proofs.YtnhgnfdbdflhcaaGreatDoor
open Go Go.Ax Go.Eng
variable {a k:Int}(s:MS)(h ka s0 s1:Int)(dd:List UInt8)(na o:Int)(x y z:List UInt8)(bs:List (List UInt8))
section
attribute [local irreducible] Cc Dn D7 DU DD BA Dp F7 FY FD Ez Ci CS DK DV and' DW DL C9 BR Bh CB CG BG BI Aw BC Dq Fh Dt ER DX Bl CE Bv Bz Bi Az Bg BK Bj BO Du Bc DF BZ BM Cj Di fits Dv Dk Ac Am BH
attribute [local irreducible] Fv Eg Dw CJ Be nameB EL Eh Ar
theorem Kp.sf_{s:MS}{b:Bool}(h:Kp a k s):Kp a k {s with sf:=b}:={h with}
theorem Kp.st_{s:MS}{b:Bool}(h:Kp a k s)(hb:s.st=b):Kp a k {s with st:=b}:={h with st:=fun e=>h.st (hb.trans e)}
theorem as0{y z:List UInt8}(hy:y.length<=2000)(hz:z.length<=2000):SN [] [] y z []:=⟨by simp,by simp,hy,hz,by simp,by simp⟩
theorem asD{d d' x y z:List UInt8}{bs:List (List UInt8)}(h:SN d x y z bs)(hd:d'.length<=2000):SN d' x y z bs:=⟨hd,h.2⟩
theorem uS(c:Int)(n d:List UInt8)(u l m t:Int)(b:Bool)(ka s0 s1:Int)(dd:List UInt8)(na o:Int)(x y z:List UInt8)(bs:List (List UInt8))(hi:Kp a k s)(hx:Dh n d l)(ha:SN dd x y z bs):Ah E0 (.call 317 [av s,seA c n d u l m t b,asA ka s0 s1 dd na o x y z bs] []) fun r=>∃(u' e:Int) (d':List UInt8),(SN d' x y z bs)/\r=some (.ret (.tup [seA c n d u' l m t b,asA ka s0 s1 d' na o x y z bs,.i e]) []):=by
 unfold SN at *
 have hr:=hi.rb
 refine CU fun P hP=>tw ?_
 rcases AL c 2 with hc0|hc0
 ·subst hc0;refine tw ?_;obtain⟨l1,e1_1,h1_2,yy1⟩:=aC a s.rb s.ru s0 s1 hr;refine Aq yy1 ?_
  rcases AX e1_1 0 with hc2|hc2
  ·refine tw ?_;exact hP _ ⟨u,e1_1,dd,A7,rfl⟩
  subst hc2;refine tw ?_
  rcases AZ 0 (↑dd.length) with hc3|hc3
  ·refine tw ?_;rw[Bq _ _ A7];refine tw ?_
   rcases Decidable.em (dd=l1) with hc4|hc4
   ·refine tw ?_
    rcases AX u (-1) with hc5|hc5
    ·refine tw ?_
     rcases AX u s.ru with hc6|hc6
     ·refine tw ?_;exact hP _ ⟨u,12,dd,A7,rfl⟩
     subst hc6;refine tw ?_;refine hP _ ⟨s.ru,0,l1,?_,rfl⟩;exact⟨by omega,ha.2⟩
    subst hc5;refine tw ?_;refine hP _ ⟨s.ru,0,l1,?_,rfl⟩;exact⟨by omega,ha.2⟩
   rw[decide_eq_false zan]
   conv=>arg 1;whnf
   try dsimp -iota -beta -eta -zeta only
   rw[drw zas];conv=>arg 1;whnf
   rw[Ad]
   conv=>arg 1;whnf
   try dsimp -iota -beta -eta -zeta only
   exact hP _ ⟨u,16,dd,A7,rfl⟩
  refine tw ?_
  rcases AX u (-1) with hc7|hc7
  ·refine tw ?_
   rcases AX u s.ru with hc8|hc8
   ·refine tw ?_;exact hP _ ⟨u,12,dd,A7,rfl⟩
   subst hc8;refine tw ?_;refine hP _ ⟨s.ru,0,l1,?_,rfl⟩;exact⟨by omega,ha.2⟩
  subst hc7;refine tw ?_;refine hP _ ⟨s.ru,0,l1,?_,rfl⟩;exact⟨by omega,ha.2⟩
 refine tw ?_
 rcases AZ 0 (↑dd.length) with hc9|hc9
 ·refine tw ?_;exact hP _ ⟨u,0,dd,A7,rfl⟩
 refine tw ?_;obtain⟨l10,e10_1,h10_2,yy10⟩:=aC a s.rb s.ru s0 s1 hr;refine Aq yy10 ?_
 rcases AX e10_1 0 with hc11|hc11
 ·refine tw ?_;exact hP _ ⟨u,e10_1,dd,A7,rfl⟩
 subst hc11;refine tw ?_;refine hP _ ⟨u,0,l10,?_,rfl⟩;exact⟨by omega,ha.2⟩
theorem TK(s:MS)(ka s0 s1:Int)(dd:List UInt8)(na o:Int)(x y z:List UInt8)(bs:List (List UInt8)){a k:Int}(hi:Kp a k s)(ha:SN dd x y z bs):∀(n:Nat) (j:Int),0<=j->j+n=s.ix.length->Ah E0 (.loop 318 0 0 2 [(2,.pa 0 0),(3,.pa 1 0),(5,.i j)] [(0,some (.var (cv s))),(1,some (.var [.i ka,.i s0,.i s1,.sl .u8 dd,.i na,.i o,.sl .u8 x,.sl .u8 y,.sl .u8 z,.sl (.sl .u8) bs]))]) fun r=>(∃ e:Int,r=some (.fin .ret 0 [(4,.i e)] []))\/r=some (.fin (.exit 0) 0 [] [])
 | 0,j,h0,hj=>by
  have hl:=hi.ixl
  have hrl:=hi.rl
  have hkk:=hi.kk
  have hax:=ha.2.1
  have hay:=ha.2.2.1
  refine CU fun P hP=>?_
  refine tw ?_;exact hP _ (Or.inr rfl)
 | n+1,j,h0,hj=>by
  have hl:=hi.ixl
  have hrl:=hi.rl
  have hkk:=hi.kk
  have hax:=ha.2.1
  have hay:=ha.2.2.1
  have ih:=TK s ka s0 s1 dd na o x y z bs hi ha n (j+1) zaa zaa
  refine CU fun P hP=>?_
  refine tw ?_;obtain⟨⟨x0a,x0b,x0c,x0d,x0e,x0f,x0g,x0h⟩,f0,g0⟩:=Dc hi.ixm (i:=j) A7;simp only[Gh,GY,Gz,FZ,CZ,Df,Dh,DC] at f0;rw[g0];refine tw ?_;rw[dZ (hp:=A7) ..];refine tw ?_;rw[Bq _ _ (by(simp only[Qi,A8,Aj,Ae,Af,Aa,BP,AB,AC,AU,AO,Ap,LL] at *<;>omega))];refine tw ?_
  rcases Decidable.em (VE {n:=x0a,kind:=x0b,attr:=x0c,size:=x0d,policy:=x0e,auth:=x0f,written:=x0g,data:=x0h}=y) with hc1|hc1
  ·refine tw ?_
   rcases bo x0g with rfl|rfl
   ·refine tw ?_;obtain⟨b3,yy3⟩:=Kw s.rl x0a A7;refine Aq yy3 ?_
    rcases bo b3 with rfl|rfl
    ·refine tw ?_;exact hP _ (Or.inl ⟨23,rfl⟩)
    refine tw ?_;obtain⟨x5,yy5⟩:=jG o x0h x A7 A7;refine Aq yy5 ?_
    rcases bo x5 with rfl|rfl
    ·refine tw ?_;exact hP _ (Or.inl ⟨0,rfl⟩)
    refine tw ?_;exact hP _ (Or.inl ⟨16,rfl⟩)
   refine tw ?_;exact hP _ (Or.inl ⟨22,rfl⟩)
  refine tw ?_;exact hP _ ih
theorem oO(hi:Kp a k s)(ha:SN dd x y z bs):Ah E0 (.call 318 [av s,asA ka s0 s1 dd na o x y z bs] []) fun r=>∃ e:Int,r=some (.ret (.i e) []):=by
 have hl:=hi.ixl
 refine CU fun P hP=>tw ?_
 obtain(⟨e0,yy0⟩|yy0):=TK s ka s0 s1 dd na o x y z bs hi A7 (Int.toNat (↑s.ix.length-(0))) 0 A7 zaa
 ·refine Aq yy0 ?_;exact hP _ ⟨e0,rfl⟩
 refine Aq yy0 ?_;exact hP _ ⟨7,rfl⟩
theorem uT(ha:SN dd x y z bs):Ah E0 (.call 316 [asA ka s0 s1 dd na o x y z bs] []) fun r=>∃ e:Int,r=some (.ret (.i e) []):=by
 refine CU fun P hP=>tw ?_
 rcases AL ka 6 with hc0|hc0
 ·subst hc0;refine tw ?_;exact hP _ ⟨19,rfl⟩
 refine tw ?_
 rcases AL ka 9 with hc1|hc1
 ·subst hc1;refine tw ?_;exact hP _ ⟨19,rfl⟩
 refine tw ?_
 rcases AL ka 1 with hc2|hc2
 ·subst hc2;refine tw ?_
  rcases AL (↑dd.length) 0 with hc3|hc3
  ·refine tw ?_;obtain⟨l4,h4_1,yy4⟩:=UA;refine Aq yy4 ?_;obtain⟨e5,yy5⟩:=NP 1 s0 s1 l4 na o x y z bs (by(exact asD ha zaa));refine Aq yy5 ?_;exact hP _ ⟨e5,rfl⟩
  refine tw ?_;obtain⟨e6,yy6⟩:=NP 1 s0 s1 dd na o x y z bs A7;refine Aq yy6 ?_;exact hP _ ⟨e6,rfl⟩
 refine tw ?_;obtain⟨e7,yy7⟩:=NP ka s0 s1 dd na o x y z bs A7;refine Aq yy7 ?_;exact hP _ ⟨e7,rfl⟩
theorem Xh(s:MS)(c:Int)(n d:List UInt8)(u l m t:Int)(b:Bool)(q:Bool)(i0 s0 s1:Int)(dd:List UInt8)(na o:Int)(x y z:List UInt8)(bs:List (List UInt8))(hb:bs.length<=100)(hm:∀ b∈bs,b.length<=2000)(hd:d.length<=32):∀(n0:Nat) (j:Int) (w:Bool),0<=j->j+n0=bs.length->Ah E0 (.loop 310 0 0 4 [(3,.pa 0 0),(5,.pa 1 0),(6,.pa 2 0),(8,.i i0),(10,.pa 3 0),(11,.b q),(12,.i 0),(13,.b w),(14,.i j)] [(0,some (.var (cv s))),(1,some (.var [.i 8,.i s0,.i s1,.sl .u8 dd,.i na,.i o,.sl .u8 x,.sl .u8 y,.sl .u8 z,.sl (.sl .u8) bs])),(2,some (.var [.nil,.nil,.nil,.i 0,.i 0,.i 0,.i 0,.b false,.nil,.i 0,.i 0,.nil,.i 0,.i 0,.i 0,.i 0,.i 0,.i 0,.nil,.b false,.b false,.nil,.i 0,.i 0,.b false,.i 0,.nil,.nil,.nil,.nil])),(3,some (.var [.i c,.sl .u8 n,.sl .u8 d,.i u,.i l,.i m,.i t,.b b]))]) fun r=>∃ w:Bool,r=some (.fin (.exit 1) 4 [(3,.pa 0 0),(5,.pa 1 0),(6,.pa 2 0),(8,.i i0),(10,.pa 3 0),(11,.b q),(12,.i 0),(13,.b w)] [(0,some (.var (cv s))),(1,some (.var [.i 8,.i s0,.i s1,.sl .u8 dd,.i na,.i o,.sl .u8 x,.sl .u8 y,.sl .u8 z,.sl (.sl .u8) bs])),(2,some (.var [.nil,.nil,.nil,.i 0,.i 0,.i 0,.i 0,.b false,.nil,.i 0,.i 0,.nil,.i 0,.i 0,.i 0,.i 0,.i 0,.i 0,.nil,.b false,.b false,.nil,.i 0,.i 0,.b false,.i 0,.nil,.nil,.nil,.nil])),(3,some (.var [.i c,.sl .u8 n,.sl .u8 d,.i u,.i l,.i m,.i t,.b b]))])
 | 0,j,w,h0,hj=>by
  refine CU fun P hP=>?_
  refine tw ?_;exact hP _ ⟨w,rfl⟩
 | n0+1,j,w,h0,hj=>by
  have ih:=fun w=>Xh s c n d u l m t b q i0 s0 s1 dd na o x y z bs hb hm hd n0 (j+1) w zaa zaa
  refine CU fun P hP=>?_
  refine tw ?_
  rcases bo w with rfl|rfl
  ·refine tw ?_;exact hP _ (ih _)
  refine tw ?_;obtain⟨x1,f1,g1⟩:=Dc hm (i:=j) A7;rw[g1];refine tw ?_;rw[Bq _ _ A7];refine tw ?_;exact hP _ (ih _)
theorem ML(hi:Kp a k s)(hh : -100000<=h/\h<=1099511627776)(ha:SN dd x y z bs):Ah E0 (.call 310 [av s,.i h,asA ka s0 s1 dd na o x y z bs] []) fun r=>(∃ t:MS,(Kp a k t)/\r=some (.ret (.tup [av t,.i 0]) []))\/∃(t:MS) (e:Int),(e≠0)/\r=some (.ret (.tup [av t,.i e]) []):=by
 have hbl:=ha.2.2.2.2.1
 have hbm:=ha.2.2.2.2.2
 refine CU fun P hP=>tw ?_
 obtain⟨i0,⟨h0_1,h0_2⟩,yy0⟩:=Qk s h hi A7;refine Aq yy0 ?_
 rcases AZ i0 0 with hc1|hc1
 ·refine tw ?_;exact hP _ (Or.inr ⟨⟨[],[],[],0,0,0,0,false,[],0,0,[],0,0,0,0,0,0,[],false,false,[],0,0,false,0,[],[],[],[]⟩,8,A7,rfl⟩)
 refine tw ?_;obtain⟨e2,yy2⟩:=uT ka s0 s1 dd na o x y z bs A7;refine Aq yy2 ?_
 rcases AX e2 0 with hc3|hc3
 ·refine tw ?_;exact hP _ (Or.inr ⟨⟨[],[],[],0,0,0,0,false,[],0,0,[],0,0,0,0,0,0,[],false,false,[],0,0,false,0,[],[],[],[]⟩,e2,A7,rfl⟩)
 subst hc3;refine tw ?_;obtain⟨⟨x4a,x4b,x4c,x4d,x4e,x4f,x4g,x4h⟩,f4,g4⟩:=Dc hi.ssm (i:=i0) A7;simp only[Gh,GY,Gz,FZ,CZ,Df,Dh,DC] at f4;rw[g4];refine tw ?_
 rcases AL ka 1 with hc5|hc5
 ·subst hc5;refine tw ?_;obtain⟨u'6,e6_1,d'6_2,h6_3,yy6⟩:=uS s x4a x4b x4c x4d x4e x4f x4g x4h 1 s0 s1 dd na o x y z bs hi A7 A7;refine Aq yy6 ?_
  rcases AX e6_1 0 with hc7|hc7
  ·refine tw ?_;exact hP _ (Or.inr ⟨⟨[],[],[],0,0,0,0,false,[],0,0,[],0,0,0,0,0,0,[],false,false,[],0,0,false,0,[],[],[],[]⟩,e6_1,A7,rfl⟩)
  subst hc7;refine tw ?_;obtain⟨l8,h8_1,yy8⟩:=EF x4c 1 s0 s1 d'6_2 na o x y z bs A7 A7;refine Aq yy8 ?_;obtain⟨t9,⟨h9_1,h9_2,h9_3,h9_4⟩,yy9⟩:=EP s i0 x4a x4b l8 u'6 x4e x4f x4g x4h hi A7 zaw
  refine Aq yy9 ?_;exact hP _ (Or.inl ⟨t9,A7,rfl⟩)
 refine tw ?_
 rcases AL ka 2 with hc10|hc10
 ·subst hc10;refine tw ?_;obtain⟨l11,h11_1,yy11⟩:=EF x4c 2 s0 s1 dd na o x y z bs A7 A7;refine Aq yy11 ?_;obtain⟨t12,⟨h12_1,h12_2,h12_3,h12_4⟩,yy12⟩:=EP s i0 x4a x4b l11 x4d (BA BinOp.and x4e na) x4f x4g x4h hi A7 zaw
  refine Aq yy12 ?_;exact hP _ (Or.inl ⟨t12,A7,rfl⟩)
 refine tw ?_
 rcases AL ka 3 with hc13|hc13
 ·subst hc13;refine tw ?_
  rcases AL x4a 2 with hc14|hc14
  ·subst hc14;refine tw ?_
   rcases AX x4f 0 with hc15|hc15
   ·refine tw ?_
    rcases AX x4f na with hc16|hc16
    ·refine tw ?_;exact hP _ (Or.inr ⟨⟨[],[],[],0,0,0,0,false,[],0,0,[],0,0,0,0,0,0,[],false,false,[],0,0,false,0,[],[],[],[]⟩,16,A7,rfl⟩)
    subst hc16;refine tw ?_;obtain⟨l17,h17_1,yy17⟩:=EF x4c 3 s0 s1 dd x4f o x y z bs A7 A7;refine Aq yy17 ?_;obtain⟨t18,⟨h18_1,h18_2,h18_3,h18_4⟩,yy18⟩:=EP s i0 2 x4b l17 x4d x4e x4f x4g x4h hi A7 zaw
    refine Aq yy18 ?_;exact hP _ (Or.inl ⟨t18,A7,rfl⟩)
   subst hc15;refine tw ?_;obtain⟨l19,h19_1,yy19⟩:=EF x4c 3 s0 s1 dd na o x y z bs A7 A7;refine Aq yy19 ?_;obtain⟨t20,⟨h20_1,h20_2,h20_3,h20_4⟩,yy20⟩:=EP s i0 2 x4b l19 x4d x4e na x4g x4h hi A7 zaw
   refine Aq yy20 ?_;exact hP _ (Or.inl ⟨t20,A7,rfl⟩)
  refine tw ?_;obtain⟨l21,h21_1,yy21⟩:=EF x4c 3 s0 s1 dd na o x y z bs A7 A7;refine Aq yy21 ?_;obtain⟨t22,⟨h22_1,h22_2,h22_3,h22_4⟩,yy22⟩:=EP s i0 x4a x4b l21 x4d x4e na x4g x4h hi A7 zaw
  refine Aq yy22 ?_;exact hP _ (Or.inl ⟨t22,A7,rfl⟩)
 refine tw ?_
 rcases AL ka 4 with hc23|hc23
 ·subst hc23;refine tw ?_
  rcases AL x4a 2 with hc24|hc24
  ·subst hc24;refine tw ?_;obtain⟨e25,yy25⟩:=oO s 4 s0 s1 dd na o x y z bs hi A7;refine Aq yy25 ?_
   rcases AX e25 0 with hc26|hc26
   ·refine tw ?_;exact hP _ (Or.inr ⟨⟨[],[],[],0,0,0,0,false,[],0,0,[],0,0,0,0,0,0,[],false,false,[],0,0,false,0,[],[],[],[]⟩,e25,A7,rfl⟩)
   subst hc26;refine tw ?_;obtain⟨l27,h27_1,yy27⟩:=EF x4c 4 s0 s1 dd na o x y z bs A7 A7;refine Aq yy27 ?_;obtain⟨t28,⟨h28_1,h28_2,h28_3,h28_4⟩,yy28⟩:=EP s i0 2 x4b l27 x4d x4e x4f x4g x4h hi A7 zaw
   refine Aq yy28 ?_;exact hP _ (Or.inl ⟨t28,A7,rfl⟩)
  refine tw ?_;obtain⟨l29,h29_1,yy29⟩:=EF x4c 4 s0 s1 dd na o x y z bs A7 A7;refine Aq yy29 ?_;obtain⟨t30,⟨h30_1,h30_2,h30_3,h30_4⟩,yy30⟩:=EP s i0 x4a x4b l29 x4d x4e x4f x4g x4h hi A7 zaw
  refine Aq yy30 ?_;exact hP _ (Or.inl ⟨t30,A7,rfl⟩)
 refine tw ?_
 rcases AL ka 5 with hc31|hc31
 ·subst hc31;refine tw ?_
  rcases AL x4a 2 with hc32|hc32
  ·subst hc32;refine tw ?_
   rcases bo (s.sf) with hc33|hc33
   ·rw[hc33]
    conv=>arg 1;whnf
    rw[Ad]
    conv=>arg 1;whnf
    try dsimp -iota -beta -eta -zeta only
    rw[AQ];obtain⟨b34,yy34⟩:=ak o s.vc na;refine Aq yy34 ?_
    rcases bo b34 with rfl|rfl
    ·refine tw ?_;obtain⟨l36,h36_1,yy36⟩:=EF x4c 5 s0 s1 dd na o x y z bs A7 A7;refine Aq yy36 ?_;obtain⟨t37,⟨h37_1,h37_2,h37_3,h37_4⟩,yy37⟩:=EP {s with sf:=true} i0 2 x4b l36 x4d x4e x4f x4g x4h (by(exact Kp.sf_ zav)) A7 zaw
     refine Aq yy37 ?_;exact hP _ (Or.inl ⟨t37,A7,rfl⟩)
    refine tw ?_;exact hP _ (Or.inr ⟨⟨[],[],[],0,0,0,0,false,[],0,0,[],0,0,0,0,0,0,[],false,false,[],0,0,false,0,[],[],[],[]⟩,16,A7,rfl⟩)
   rw[hc33];refine tw ?_;exact hP _ (Or.inr ⟨⟨[],[],[],0,0,0,0,false,[],0,0,[],0,0,0,0,0,0,[],false,false,[],0,0,false,0,[],[],[],[]⟩,16,A7,rfl⟩)
  refine tw ?_;obtain⟨l38,h38_1,yy38⟩:=EF x4c 5 s0 s1 dd na o x y z bs A7 A7;refine Aq yy38 ?_;obtain⟨t39,⟨h39_1,h39_2,h39_3,h39_4⟩,yy39⟩:=EP s i0 x4a x4b l38 x4d x4e x4f x4g x4h hi A7 zaw
  refine Aq yy39 ?_;exact hP _ (Or.inl ⟨t39,A7,rfl⟩)
 refine tw ?_
 rcases AL ka 7 with hc40|hc40
 ·subst hc40;refine tw ?_;obtain⟨l41,h41_1,yy41⟩:=EF x4c 7 s0 s1 dd na o x y z bs A7 A7;refine Aq yy41 ?_;obtain⟨t42,⟨h42_1,h42_2,h42_3,h42_4⟩,yy42⟩:=EP s i0 x4a x4b l41 x4d x4e x4f x4g true hi A7 zaw
  refine Aq yy42 ?_;exact hP _ (Or.inl ⟨t42,A7,rfl⟩)
 refine tw ?_
 rcases AL ka 8 with hc43|hc43
 ·subst hc43;refine tw ?_;obtain⟨w44,yy44⟩:=Xh s x4a x4b x4c x4d x4e x4f x4g x4h (F7 x4a 2) i0 s0 s1 dd na o x y z bs A7 A7 A7 (Int.toNat (↑bs.length-(0))) 0 false A7 zaa;refine Aq yy44 ?_
  rcases AL x4a 2 with hc45|hc45
  ·subst hc45;refine tw ?_
   rcases bo w44 with rfl|rfl
   ·refine tw ?_;obtain⟨l47,h47_1,yy47⟩:=EF x4c 8 s0 s1 dd na o x y z bs A7 A7;refine Aq yy47 ?_;obtain⟨t48,⟨h48_1,h48_2,h48_3,h48_4⟩,yy48⟩:=EP s i0 2 x4b l47 x4d x4e x4f x4g x4h hi A7 zaw
    refine Aq yy48 ?_;exact hP _ (Or.inl ⟨t48,A7,rfl⟩)
   refine tw ?_;exact hP _ (Or.inr ⟨⟨[],[],[],0,0,0,0,false,[],0,0,[],0,0,0,0,0,0,[],false,false,[],0,0,false,0,[],[],[],[]⟩,16,A7,rfl⟩)
  rw[AA zaa]
  conv=>arg 1;whnf
  rw[Ad]
  conv=>arg 1;whnf
  rw[Ad]
  conv=>arg 1;whnf
  rw[Cf zaa]
  conv=>arg 1;whnf
  try dsimp -iota -beta -eta -zeta only
  rw[AQ];obtain⟨l49,h49_1,yy49⟩:=EF x4c 8 s0 s1 dd na o x y z bs A7 A7;refine Aq yy49 ?_;obtain⟨t50,⟨h50_1,h50_2,h50_3,h50_4⟩,yy50⟩:=EP s i0 x4a x4b l49 x4d x4e x4f x4g x4h hi A7 zaw
  refine Aq yy50 ?_;exact hP _ (Or.inl ⟨t50,A7,rfl⟩)
 refine tw ?_;obtain⟨l51,h51_1,yy51⟩:=EF x4c ka s0 s1 dd na o x y z bs A7 A7;refine Aq yy51 ?_;obtain⟨t52,⟨h52_1,h52_2,h52_3,h52_4⟩,yy52⟩:=EP s i0 x4a x4b l51 x4d x4e x4f x4g x4h hi A7 zaw
 refine Aq yy52 ?_;exact hP _ (Or.inl ⟨t52,A7,rfl⟩)
theorem jP(n f:List UInt8)(t:Int)(hi:Kp a k s)(hh : -100000<=h/\h<=1099511627776)(hn:n.length<=2000)(hf:f.length<=2000):Ah E0 (.call 292 [av s,.i h,.sl .u8 n,.sl .u8 f,.i t] []) fun r=>(∃ t:MS,(Kp a k t)/\r=some (.ret (.tup [av t,.i 0]) []))\/∃(t:MS) (e:Int),(e≠0)/\r=some (.ret (.tup [av t,.i e]) []):=by
 refine CU fun P hP=>tw ?_
 obtain⟨i0,⟨h0_1,h0_2⟩,yy0⟩:=Qk s h hi A7;refine Aq yy0 ?_
 rcases AZ i0 0 with hc1|hc1
 ·refine tw ?_;exact hP _ (Or.inr ⟨⟨[],[],[],0,0,0,0,false,[],0,0,[],0,0,0,0,0,0,[],false,false,[],0,0,false,0,[],[],[],[]⟩,8,A7,rfl⟩)
 refine tw ?_
 rcases AZ t 0 with hc2|hc2
 ·refine tw ?_;exact hP _ (Or.inr ⟨⟨[],[],[],0,0,0,0,false,[],0,0,[],0,0,0,0,0,0,[],false,false,[],0,0,false,0,[],[],[],[]⟩,1,A7,rfl⟩)
 refine tw ?_
 rcases AZ 1048576 t with hc3|hc3
 ·refine tw ?_;exact hP _ (Or.inr ⟨⟨[],[],[],0,0,0,0,false,[],0,0,[],0,0,0,0,0,0,[],false,false,[],0,0,false,0,[],[],[],[]⟩,1,A7,rfl⟩)
 refine tw ?_;obtain⟨e4,yy4⟩:=NP 6 0 0 [] 0 0 [] n f [] zbp;refine Aq yy4 ?_
 rcases AX e4 0 with hc5|hc5
 ·refine tw ?_;exact hP _ (Or.inr ⟨⟨[],[],[],0,0,0,0,false,[],0,0,[],0,0,0,0,0,0,[],false,false,[],0,0,false,0,[],[],[],[]⟩,e4,A7,rfl⟩)
 subst hc5;refine tw ?_;obtain⟨⟨x6a,x6b,x6c,x6d,x6e,x6f,x6g,x6h⟩,f6,g6⟩:=Dc hi.ssm (i:=i0) A7;simp only[Gh,GY,Gz,FZ,CZ,Df,Dh,DC] at f6;rw[g6];refine tw ?_
 rcases AX t 0 with hc7|hc7
 ·refine tw ?_
  rcases AL x6g 0 with hc8|hc8
  ·subst hc8;rw[EH zaa]
   conv=>arg 1;whnf
   rw[Ad]
   conv=>arg 1;whnf
   rw[Ad]
   conv=>arg 1;whnf
   try dsimp -iota -beta -eta -zeta only
   rw[AQ];obtain⟨l9,h9_1,yy9⟩:=EF x6c 6 0 0 [] 0 0 [] n f [] A7 zbp;refine Aq yy9 ?_;obtain⟨t10,⟨h10_1,h10_2,h10_3,h10_4⟩,yy10⟩:=EP s i0 x6a x6b l9 x6d x6e x6f (Cc s.vc t) x6h hi A7 zaw
   refine Aq yy10 ?_;exact hP _ (Or.inl ⟨t10,A7,rfl⟩)
  refine tw ?_
  rcases AZ (Cc s.vc t) x6g with hc11|hc11
  ·refine tw ?_;obtain⟨l12,h12_1,yy12⟩:=EF x6c 6 0 0 [] 0 0 [] n f [] A7 zbp;refine Aq yy12 ?_;obtain⟨t13,⟨h13_1,h13_2,h13_3,h13_4⟩,yy13⟩:=EP s i0 x6a x6b l12 x6d x6e x6f (Cc s.vc t) x6h hi A7 zaw
   refine Aq yy13 ?_;exact hP _ (Or.inl ⟨t13,A7,rfl⟩)
  refine tw ?_;obtain⟨l14,h14_1,yy14⟩:=EF x6c 6 0 0 [] 0 0 [] n f [] A7 zbp;refine Aq yy14 ?_;obtain⟨t15,⟨h15_1,h15_2,h15_3,h15_4⟩,yy15⟩:=EP s i0 x6a x6b l14 x6d x6e x6f x6g x6h hi A7 zaw
  refine Aq yy15 ?_;exact hP _ (Or.inl ⟨t15,A7,rfl⟩)
 subst hc7;refine tw ?_;obtain⟨l16,h16_1,yy16⟩:=EF x6c 6 0 0 [] 0 0 [] n f [] A7 zbp;refine Aq yy16 ?_;obtain⟨t17,⟨h17_1,h17_2,h17_3,h17_4⟩,yy17⟩:=EP s i0 x6a x6b l16 x6d x6e x6f x6g x6h hi A7 zaw
 refine Aq yy17 ?_;exact hP _ (Or.inl ⟨t17,A7,rfl⟩)
theorem aF(d f:List UInt8)(hd:d.length<=2000)(hf:f.length<=2000):Ah E0 (.call 147 [.sl .u8 d,.sl .u8 f] []) fun r=>∃ l:List UInt8,(l.length=32)/\r=some (.ret (.sl .u8 l) []):=by
 refine CU fun P hP=>tw ?_
 rw[F5 _ _ A7 A7];refine tw ?_;exact hP _ ⟨sha256 (Ar 9 [d,f]),A7,rfl⟩
theorem bC(p1 p2 p3:Int)(p4 p5 f g:List UInt8)(hi:Kp a k s)(hh : -100000<=h/\h<=1099511627776)(h4:p4.length<=2000)(h5:p5.length<=2000)(hf:f.length<=2000)(hg:g.length<=2000):Ah E0 (.call 293 [av s,.i h,.agg [.i p1,.i p2,.i p3,.sl .u8 p4,.sl .u8 p5],.sl .u8 f,.sl .u8 g] []) fun r=>(∃ t:MS,(Kp a k t)/\r=some (.ret (.tup [av t,.i 0]) []))\/∃(t:MS) (e:Int),(e≠0)/\r=some (.ret (.tup [av t,.i e]) []):=by
 refine CU fun P hP=>tw ?_
 obtain⟨i0,⟨h0_1,h0_2⟩,yy0⟩:=Qk s h hi A7;refine Aq yy0 ?_
 rcases AZ i0 0 with hc1|hc1
 ·refine tw ?_;exact hP _ (Or.inr ⟨⟨[],[],[],0,0,0,0,false,[],0,0,[],0,0,0,0,0,0,[],false,false,[],0,0,false,0,[],[],[],[]⟩,8,A7,rfl⟩)
 refine tw ?_;rw[Ju ..];refine tw ?_
 rcases AX (CV {kind:=p1,attr:=p2,height:=p3,policy:=p4,unique:=p5}) 0 with hc2|hc2
 ·refine tw ?_;exact hP _ (Or.inr ⟨⟨[],[],[],0,0,0,0,false,[],0,0,[],0,0,0,0,0,0,[],false,false,[],0,0,false,0,[],[],[],[]⟩,CV {kind:=p1,attr:=p2,height:=p3,policy:=p4,unique:=p5},A7,rfl⟩)
 refine tw ?_
 rcases AX p1 2 with hc3|hc3
 ·refine tw ?_;exact hP _ (Or.inr ⟨⟨[],[],[],0,0,0,0,false,[],0,0,[],0,0,0,0,0,0,[],false,false,[],0,0,false,0,[],[],[],[]⟩,19,A7,rfl⟩)
 subst hc3;refine tw ?_
 rcases AZ 128 (↑f.length) with hc4|hc4
 ·refine tw ?_;exact hP _ (Or.inr ⟨⟨[],[],[],0,0,0,0,false,[],0,0,[],0,0,0,0,0,0,[],false,false,[],0,0,false,0,[],[],[],[]⟩,4,A7,rfl⟩)
 refine tw ?_;obtain⟨⟨x5a,x5b,x5c,x5d,x5e,x5f,x5g,x5h⟩,f5,g5⟩:=Dc hi.ssm (i:=i0) A7;simp only[Gh,GY,Gz,FZ,CZ,Df,Dh,DC] at f5;rw[g5];refine tw ?_
 rcases AL x5a 2 with hc6|hc6
 ·subst hc6;refine tw ?_;obtain⟨l7,h7_1,yy7⟩:=aF x5c f A7 A7;refine Aq yy7 ?_;rw[nI _ _ _ zaa];generalize Fv _ _ _=V;obtain⟨v1,v2⟩:=V;refine tw ?_
  rcases bo v2 with rfl|rfl
  ·refine tw ?_;rw[GR _ _ _ _ _ A7 A7];refine tw ?_;obtain⟨l9,h9_1,yy9⟩:=EF x5c 9 0 0 [] 0 0 [] (nameB {kind:=2,attr:=p2,height:=p3,policy:=p4,unique:=p5}) f [] A7 (by(exact as0 (by rw[Aa];decide) zaa))
   refine Aq yy9 ?_;obtain⟨t10,⟨h10_1,h10_2,h10_3,h10_4⟩,yy10⟩:=EP s i0 2 x5b l9 x5d x5e x5f x5g x5h hi A7 zaw
   refine Aq yy10 ?_;exact hP _ (Or.inl ⟨t10,A7,rfl⟩)
  refine tw ?_;exact hP _ (Or.inr ⟨⟨[],[],[],0,0,0,0,false,[],0,0,[],0,0,0,0,0,0,[],false,false,[],0,0,false,0,[],[],[],[]⟩,17,A7,rfl⟩)
 refine tw ?_;rw[GR _ _ _ _ _ A7 A7];refine tw ?_;obtain⟨l11,h11_1,yy11⟩:=EF x5c 9 0 0 [] 0 0 [] (nameB {kind:=2,attr:=p2,height:=p3,policy:=p4,unique:=p5}) f [] A7 (by(exact as0 (by rw[Aa];decide) zaa))
 refine Aq yy11 ?_;obtain⟨t12,⟨h12_1,h12_2,h12_3,h12_4⟩,yy12⟩:=EP s i0 x5a x5b l11 x5d x5e x5f x5g x5h hi A7 zaw
 refine Aq yy12 ?_;exact hP _ (Or.inl ⟨t12,A7,rfl⟩)
end
end Go.Proofs.YtnhgnfdbdflhcaaGreatDoor
