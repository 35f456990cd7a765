/- Own texts of this claim: contracts of functions. -/
import Derived.Test.YtlpkjhhfhannpaaGreatDoorBtar
set_option linter.all false
set_option maxHeartbeats 40000000
set_option maxRecDepth 100000
namespace Go.Proofs.YtlpkjhhfhannpaaGreatDoor
open Go Go.Ax Go.Eng
attribute [local irreducible] CS Cj CP CW CQ BC Cm ED ES Dx EG CJ Bi Ce CX and' Cf CU BL Au BI BP BR Ag Ai AY Ae D5 EJ D6 DX Cb BZ BQ BM BO BJ AZ BK Aj Ak Ap D7 BB CV BU BF CO D8 Cc fits D9 Ci AC AQ Ah
section
attribute [local irreducible] BG DY CY nameB Eh Ef Az Ei Eo F5 Ff Fh Bg Io GI JD Jk JE Jh Ha NZ Na IJ
theorem A1H(s:MS)(k' n m:Int)(b:List UInt8){a k:Int}(hi:Kp a k s)(hq:12<=k'%48/\k'%48<=22)(hb:b.length<=140737488355328):EC E0 (.call 8 [av s,.i k',.i n,.i m,.sl .u8 b] []) fun r=>∃(c:Int) (hs:List Int) (az:List (El AB)) (is:List Int) (bs:List (List UInt8)),(Few hs az is bs)/\r=some (.ret (rq c hs az is bs) []):=by
 have hol:=hi.obl
 have hsl:=hi.ssl
 have hac:=hi.ac
 refine G5 fun P hP=>tw ?_
 rw[Ht _ _ zaa];refine tw ?_;rw[Ht _ _ zaa];refine tw ?_;rw[Ht _ _ zaa];refine tw ?_;rw[FU _ _ AA]
 conv=>arg 1;whnf
 rw[FH zay]
 conv=>arg 1;whnf
 rw[FH zay]
 conv=>arg 1;whnf
 rw[Aa zaa]
 conv=>arg 1;whnf
 rw[Aa zaa]
 conv=>arg 1;whnf
 rw[Aa zaa]
 conv=>arg 1;whnf
 rw[Aa zaa]
 conv=>arg 1;whnf
 rw[Aa zaa]
 conv=>arg 1;whnf
 rw[Aa zaa]
 conv=>arg 1;whnf
 rw[Aa zaa]
 conv=>arg 1;whnf
 rw[AL]
 conv=>arg 1;whnf
 rw[Aa zaa]
 conv=>arg 1;whnf
 rw[Aa zaa]
 conv=>arg 1;whnf
 rw[Aa zaa]
 conv=>arg 1;whnf
 rw[Aa zaa]
 conv=>arg 1;whnf
 rw[Aa zaa]
 conv=>arg 1;whnf
 rcases Ar (k'%48) 12 with hc0|hc0
 ·refine tw ?_;obtain⟨h1,⟨h1_1,h1_2⟩,yy1⟩:=JO s (n%1073741824) 1 hi AA;refine Dv yy1 ?_;obtain⟨i12,i22_1,i32_2,o2_3,u2_4,d2_5,⟨h2_6,h2_7,h2_8,h2_9,h2_10⟩,yy2⟩:=Qu s (n%1073741824/3) (List.take (Int.toNat 60) b) hi AA AA;refine Dv yy2 ?_;obtain⟨y13,y23_1,y33_2,⟨h3_3,h3_4⟩,yy3⟩:=Dn s 10 h1 [] [i12,i22_1,i32_2] [o2_3,u2_4,d2_5] (m%1073741824) (List.take (Int.toNat 60) b) hi zaS AA AA;refine Dv yy3 ?_;refine hP _ ⟨10,[h1],[(y13,y23_1,y33_2)],[i12,i22_1,i32_2],[o2_3,u2_4,d2_5],?_,rfl⟩;exact CB
 refine tw ?_
 rcases Ar (k'%48) 13 with hc4|hc4
 ·refine tw ?_;obtain⟨h5,⟨h5_1,h5_2⟩,yy5⟩:=JO s (n%1073741824) 1 hi AA;refine Dv yy5 ?_;obtain⟨o6,u6_1,⟨h6_2,h6_3⟩,yy6⟩:=ZP s h5 (n%1073741824/3) (List.take (Int.toNat 60) b) hi AA AA;refine Dv yy6 ?_;obtain⟨y17,y27_1,y37_2,⟨h7_3,h7_4⟩,yy7⟩:=Dn s 11 h5 [] [] [o6,u6_1] (m%1073741824) (List.take (Int.toNat 60) b) hi zaS AA AA;refine Dv yy7 ?_;refine hP _ ⟨11,[h5],[(y17,y27_1,y37_2)],[],[o6,u6_1],?_,rfl⟩;exact CB
 refine tw ?_
 rcases Ar (k'%48) 14 with hc8|hc8
 ·refine tw ?_;obtain⟨h9,⟨h9_1,h9_2⟩,yy9⟩:=JO s (n%1073741824) 1 hi AA;refine Dv yy9 ?_;obtain⟨o10,u10_1,⟨h10_2,h10_3⟩,yy10⟩:=ZP s h9 (n%1073741824/3) (List.take (Int.toNat 60) b) hi AA AA;refine Dv yy10 ?_;obtain⟨y111,y211_1,y311_2,⟨h11_3,h11_4⟩,yy11⟩:=Dn s 11 h9 [] [] [o10,u10_1] (m%1073741824) (List.take (Int.toNat 60) b) hi zaS AA AA;refine Dv yy11 ?_;refine hP _ ⟨11,[h9],[(y111,y211_1,y311_2)],[],[o10,u10_1],?_,rfl⟩;exact CB
 refine tw ?_
 rcases Ar (k'%48) 15 with hc12|hc12
 ·refine tw ?_;obtain⟨h13,⟨h13_1,h13_2⟩,yy13⟩:=JO s (n%1073741824) 1 hi AA;refine Dv yy13 ?_;obtain⟨o14,u14_1,⟨h14_2,h14_3⟩,yy14⟩:=ZP s h13 (n%1073741824/3) (List.take (Int.toNat 60) b) hi AA AA;refine Dv yy14 ?_;obtain⟨y115,y215_1,y315_2,⟨h15_3,h15_4⟩,yy15⟩:=Dn s 11 h13 [] [] [o14,u14_1] (m%1073741824) (List.take (Int.toNat 60) b) hi zaS AA AA;refine Dv yy15 ?_;refine hP _ ⟨11,[h13],[(y115,y215_1,y315_2)],[],[o14,u14_1],?_,rfl⟩;exact CB
 refine tw ?_
 rcases Ar (k'%48) 16 with hc16|hc16
 ·refine tw ?_;obtain⟨h17,⟨h17_1,h17_2⟩,yy17⟩:=JO s (n%1073741824) 0 hi AA;refine Dv yy17 ?_;obtain⟨h18,⟨h18_1,h18_2⟩,yy18⟩:=Kr s (n%1073741824) 0 hi AA;refine Dv yy18 ?_;obtain⟨x19,m19,g19⟩:=EO (l:=[h17,h18]) (i:=n%1073741824/3%2) zay;rw[g19];refine tw ?_;refine hP _ ⟨12,[],[],[x19],[],?_,rfl⟩;exact CB
 refine tw ?_
 rcases Ar (k'%48) 17 with hc20|hc20
 ·refine tw ?_;obtain⟨h21,⟨h21_1,h21_2⟩,yy21⟩:=JO s (n%1073741824) 3 hi AA;refine Dv yy21 ?_;obtain⟨y122,y222_1,y322_2,⟨h22_3,h22_4⟩,yy22⟩:=Dn s 13 h21 [] [] [] (m%1073741824) (List.take (Int.toNat 60) b) hi zaS AA AA;refine Dv yy22 ?_;refine hP _ ⟨13,[h21],[(y122,y222_1,y322_2)],[],[],?_,rfl⟩;exact CB
 refine tw ?_
 rcases Ar (k'%48) 18 with hc23|hc23
 ·refine tw ?_;obtain⟨h24,⟨h24_1,h24_2⟩,yy24⟩:=JO s (n%1073741824) 3 hi AA;refine Dv yy24 ?_;obtain⟨y125,y225_1,y325_2,⟨h25_3,h25_4⟩,yy25⟩:=Dn s 13 h24 [] [] [] (m%1073741824) (List.take (Int.toNat 60) b) hi zaS AA AA;refine Dv yy25 ?_;refine hP _ ⟨13,[h24],[(y125,y225_1,y325_2)],[],[],?_,rfl⟩;exact CB
 refine tw ?_
 rcases Ar (k'%48) 19 with hc26|hc26
 ·refine tw ?_;obtain⟨h27,⟨h27_1,h27_2⟩,yy27⟩:=JO s (n%1073741824) 2 hi AA;refine Dv yy27 ?_;obtain⟨y128,y228_1,y328_2,⟨h28_3,h28_4⟩,yy28⟩:=Dn s 14 h27 [] [] [List.take (Int.toNat 60) b] (m%1073741824) (List.take (Int.toNat 60) b) hi zaS AA AA;refine Dv yy28 ?_;refine hP _ ⟨14,[h27],[(y128,y228_1,y328_2)],[],[List.take (Int.toNat 60) b],?_,rfl⟩;exact CB
 refine tw ?_
 rcases Ar (k'%48) 20 with hc29|hc29
 ·refine tw ?_;obtain⟨h30,⟨h30_1,h30_2⟩,yy30⟩:=JO s (n%1073741824) 2 hi AA;refine Dv yy30 ?_;obtain⟨y131,y231_1,y331_2,⟨h31_3,h31_4⟩,yy31⟩:=Dn s 14 h30 [] [] [List.take (Int.toNat 60) b] (m%1073741824) (List.take (Int.toNat 60) b) hi zaS AA AA;refine Dv yy31 ?_;refine hP _ ⟨14,[h30],[(y131,y231_1,y331_2)],[],[List.take (Int.toNat 60) b],?_,rfl⟩;exact CB
 refine tw ?_
 rcases Ar (k'%48) 21 with hc32|hc32
 ·refine tw ?_;obtain⟨h33,⟨h33_1,h33_2⟩,yy33⟩:=JO s (n%1073741824) 2 hi AA;rw[yy33]
  conv=>arg 1;whnf
  rw[Aa zaa]
  conv=>arg 1;whnf
  rw[Aa zaa]
  conv=>arg 1;whnf
  rw[Aa zaa]
  conv=>arg 1;whnf
  rw[Aa zaa]
  conv=>arg 1;whnf
  try dsimp -iota -beta -eta -zeta only
  rw[Ew zaa];rw[drw zaw];conv=>arg 1;whnf
  rw[F6 zaa];rw[F6 zaa];rw[Ew zaa];rw[AL]
  conv=>arg 1;whnf
  rw[AL]
  conv=>arg 1;whnf
  try dsimp -iota -beta -eta -zeta only
  rw[AX];obtain⟨y134,y234_1,y334_2,⟨h34_3,h34_4⟩,yy34⟩:=Dn s 15 h33 [] [CP (BC BinOp.and s.ac 1) (n%1073741824%65536),CP (s.ac/2) (n%1073741824/7%65536)] [List.take (Int.toNat 60) b] (m%1073741824) (List.take (Int.toNat 60) b) hi zaS AA AA;refine Dv yy34 ?_;refine hP _ ⟨15,[h33],[(y134,y234_1,y334_2)],[CP (BC BinOp.and s.ac 1) (n%1073741824%65536),CP (s.ac/2) (n%1073741824/7%65536)],[List.take (Int.toNat 60) b],?_,rfl⟩;exact CB
 refine tw ?_;obtain⟨h35,⟨h35_1,h35_2⟩,yy35⟩:=JO s (n%1073741824) 2 hi AA;rw[yy35]
 conv=>arg 1;whnf
 rw[Aa zaa]
 conv=>arg 1;whnf
 rw[Aa zaa]
 conv=>arg 1;whnf
 rw[Aa zaa]
 conv=>arg 1;whnf
 rw[Aa zaa]
 conv=>arg 1;whnf
 try dsimp -iota -beta -eta -zeta only
 rw[Ew zaa];rw[drw zaw];conv=>arg 1;whnf
 rw[F6 zaa];rw[F6 zaa];rw[Ew zaa];rw[AL]
 conv=>arg 1;whnf
 rw[AL]
 conv=>arg 1;whnf
 try dsimp -iota -beta -eta -zeta only
 rw[AX];obtain⟨y136,y236_1,y336_2,⟨h36_3,h36_4⟩,yy36⟩:=Dn s 15 h35 [] [CP (BC BinOp.and s.ac 1) (n%1073741824%65536),CP (s.ac/2) (n%1073741824/7%65536)] [List.take (Int.toNat 60) b] (m%1073741824) (List.take (Int.toNat 60) b) hi zaS AA AA;refine Dv yy36 ?_;refine hP _ ⟨15,[h35],[(y136,y236_1,y336_2)],[CP (BC BinOp.and s.ac 1) (n%1073741824%65536),CP (s.ac/2) (n%1073741824/7%65536)],[List.take (Int.toNat 60) b],?_,rfl⟩;exact CB
end
section
attribute [local irreducible] BG DY CY nameB Eh Ef Az Ei Eo F5 Ff Fh Bg Io GI JD Jk JE Jh Ha NZ Na IJ
theorem A1I(s:MS)(k' n m:Int)(b:List UInt8){a k:Int}(hi:Kp a k s)(hq:23<=k'%48/\k'%48<=31)(hb:b.length<=140737488355328):EC E0 (.call 8 [av s,.i k',.i n,.i m,.sl .u8 b] []) fun r=>∃(c:Int) (hs:List Int) (az:List (El AB)) (is:List Int) (bs:List (List UInt8)),(Few hs az is bs)/\r=some (.ret (rq c hs az is bs) []):=by
 have hol:=hi.obl
 have hsl:=hi.ssl
 have hac:=hi.ac
 refine G5 fun P hP=>tw ?_
 rw[Ht _ _ zaa];refine tw ?_;rw[Ht _ _ zaa];refine tw ?_;rw[Ht _ _ zaa];refine tw ?_;rw[FU _ _ AA]
 conv=>arg 1;whnf
 rw[FH zay]
 conv=>arg 1;whnf
 rw[FH zay]
 conv=>arg 1;whnf
 rw[Aa zaa]
 conv=>arg 1;whnf
 rw[Aa zaa]
 conv=>arg 1;whnf
 rw[Aa zaa]
 conv=>arg 1;whnf
 rw[Aa zaa]
 conv=>arg 1;whnf
 rw[Aa zaa]
 conv=>arg 1;whnf
 rw[Aa zaa]
 conv=>arg 1;whnf
 rw[Aa zaa]
 conv=>arg 1;whnf
 rw[AL]
 conv=>arg 1;whnf
 rw[Aa zaa]
 conv=>arg 1;whnf
 rw[Aa zaa]
 conv=>arg 1;whnf
 rw[Aa zaa]
 conv=>arg 1;whnf
 rw[Aa zaa]
 conv=>arg 1;whnf
 rw[Aa zaa]
 conv=>arg 1;whnf
 rw[Aa zaa]
 conv=>arg 1;whnf
 rw[Aa zaa]
 conv=>arg 1;whnf
 rw[Aa zaa]
 conv=>arg 1;whnf
 rw[Aa zaa]
 conv=>arg 1;whnf
 rw[Aa zaa]
 conv=>arg 1;whnf
 rw[Aa zaa]
 conv=>arg 1;whnf
 rw[Aa zaa]
 conv=>arg 1;whnf
 rw[Aa zaa]
 conv=>arg 1;whnf
 rw[Aa zaa]
 conv=>arg 1;whnf
 rw[Aa zaa]
 conv=>arg 1;whnf
 rw[Aa zaa]
 conv=>arg 1;whnf
 rcases Ar (k'%48) 23 with hc0|hc0
 ·refine tw ?_;refine hP _ ⟨16,[],[],[1+n%1073741824%3],[],?_,rfl⟩;exact CB
 refine tw ?_
 rcases Ar (k'%48) 24 with hc1|hc1
 ·rw[Dz zaa]
  conv=>arg 1;whnf
  rw[Aa zaa]
  conv=>arg 1;whnf
  rw[Ew zaa];rw[Bj zaa];rw[AL]
  conv=>arg 1;whnf
  rw[AL]
  conv=>arg 1;whnf
  rw[AL]
  conv=>arg 1;whnf
  try dsimp -iota -beta -eta -zeta only
  refine hP _ ⟨16,[],[],[1+n%1073741824%3],[],?_,rfl⟩;exact CB
 refine tw ?_
 rcases Ar (k'%48) 25 with hc2|hc2
 ·rw[Dz zaa]
  conv=>arg 1;whnf
  rw[Aa zaa]
  conv=>arg 1;whnf
  rw[Ew zaa];rw[Bj zaa];rw[AL]
  conv=>arg 1;whnf
  rw[AL]
  conv=>arg 1;whnf
  rw[AL]
  conv=>arg 1;whnf
  try dsimp -iota -beta -eta -zeta only
  refine hP _ ⟨16,[],[],[1+n%1073741824%3],[],?_,rfl⟩;exact CB
 refine tw ?_
 rcases Ar (k'%48) 26 with hc3|hc3
 ·rw[Dz zaa]
  conv=>arg 1;whnf
  rw[AL]
  conv=>arg 1;whnf
  try dsimp -iota -beta -eta -zeta only
  rw[AX];obtain⟨is4,bs4_1,⟨h4_2,h4_3,h4_4⟩,yy4⟩:=XN s (n%1073741824) (m%1073741824) (List.take (Int.toNat 60) b) hi AA AA AA;refine Dv yy4 ?_;refine hP _ ⟨17,[],[],is4,bs4_1,?_,rfl⟩;exact CB
 rw[Aa zaa]
 conv=>arg 1;whnf
 rw[AL]
 conv=>arg 1;whnf
 rcases Ar (k'%48) 27 with hc5|hc5
 ·refine tw ?_;obtain⟨is6,bs6_1,⟨h6_2,h6_3,h6_4⟩,yy6⟩:=XN s (n%1073741824) (m%1073741824) (List.take (Int.toNat 60) b) hi AA AA AA;refine Dv yy6 ?_;refine hP _ ⟨17,[],[],is6,bs6_1,?_,rfl⟩;exact CB
 refine tw ?_
 rcases Ar (k'%48) 28 with hc7|hc7
 ·refine tw ?_;obtain⟨is8,bs8_1,⟨h8_2,h8_3,h8_4⟩,yy8⟩:=XN s (n%1073741824) (m%1073741824) (List.take (Int.toNat 60) b) hi AA AA AA;refine Dv yy8 ?_;refine hP _ ⟨17,[],[],is8,bs8_1,?_,rfl⟩;exact CB
 refine tw ?_
 rcases Ar (k'%48) 29 with hc9|hc9
 ·refine tw ?_;obtain⟨is10,bs10_1,⟨h10_2,h10_3,h10_4⟩,yy10⟩:=XN s (n%1073741824) (m%1073741824) (List.take (Int.toNat 60) b) hi AA AA AA;refine Dv yy10 ?_;refine hP _ ⟨17,[],[],is10,bs10_1,?_,rfl⟩;exact CB
 refine tw ?_
 rcases Ar (k'%48) 30 with hc11|hc11
 ·refine tw ?_;obtain⟨h12,⟨h12_1,h12_2⟩,yy12⟩:=A80 s (n%1073741824) hi AA;refine Dv yy12 ?_;obtain⟨h13,⟨h13_1,h13_2⟩,yy13⟩:=Kr s (n%1073741824/3) 0 hi AA;refine tvn yy13 ?_;rw[FU _ _ AA];refine tw ?_;obtain⟨y114,y214_1,y314_2,⟨h14_3,h14_4⟩,yy14⟩:=Dn s 18 h12 [] [h13,n%1073741824%50] [List.take (Int.toNat 4) (List.take (Int.toNat 60) b)] (m%1073741824) (List.take (Int.toNat 60) b) hi zaS AA AA;refine Dv yy14 ?_;refine hP _ ⟨18,[h12],[(y114,y214_1,y314_2)],[h13,n%1073741824%50],[List.take (Int.toNat 4) (List.take (Int.toNat 60) b)],?_,rfl⟩;exact CB
 refine tw ?_;obtain⟨h15,o15_1,u15_2,v15_3,⟨h15_4,h15_5,h15_6⟩,yy15⟩:=A5P s (n%1073741824) (List.take (Int.toNat 60) b) hi AA AA;refine Dv yy15 ?_;refine hP _ ⟨19,[],[],[h15],[o15_1,u15_2,v15_3],?_,rfl⟩;exact CB
end
end Go.Proofs.YtlpkjhhfhannpaaGreatDoor
