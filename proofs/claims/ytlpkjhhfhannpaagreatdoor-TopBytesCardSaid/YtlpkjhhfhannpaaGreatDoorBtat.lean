/- Own texts of this claim: contracts of functions. -/
import Derived.Test.YtlpkjhhfhannpaaGreatDoorBtar
set_option linter.all false
set_option maxHeartbeats 40000000
set_option maxRecDepth 100000
namespace Go.Proofs.YtlpkjhhfhannpaaGreatDoor
open Go Go.Ax Go.Eng
attribute [local irreducible] CS Cj CP CW CQ BC Cm ED ES Dx EG CJ Bi Ce CX and' Cf CU BL Au BI BP BR Ag Ai AY Ae D5 EJ D6 DX Cb BZ BQ BM BO BJ AZ BK Aj Ak Ap D7 BB CV BU BF CO D8 Cc fits D9 Ci AC AQ Ah
section
attribute [local irreducible] BG DY CY nameB Eh Ef Az Ei Eo F5 Ff Fh Bg Io GI JD Jk JE Jh Ha NZ Na IJ
theorem A1J(s:MS)(k' n m:Int)(b:List UInt8){a k:Int}(hi:Kp a k s)(hq:32<=k'%48/\k'%48<=43)(hb:b.length<=140737488355328):EC E0 (.call 8 [av s,.i k',.i n,.i m,.sl .u8 b] []) fun r=>∃(c:Int) (hs:List Int) (az:List (El AB)) (is:List Int) (bs:List (List UInt8)),(Few hs az is bs)/\r=some (.ret (rq c hs az is bs) []):=by
 have hol:=hi.obl
 have hsl:=hi.ssl
 have hac:=hi.ac
 refine G5 fun P hP=>tw ?_
 rw[Ht _ _ zaa];refine tw ?_;rw[Ht _ _ zaa];refine tw ?_;rw[Ht _ _ zaa];refine tw ?_;rw[FU _ _ AA]
 conv=>arg 1;whnf
 rw[FH zay]
 conv=>arg 1;whnf
 rw[FH zay]
 conv=>arg 1;whnf
 rw[Aa zaa]
 conv=>arg 1;whnf
 rw[Aa zaa]
 conv=>arg 1;whnf
 rw[Aa zaa]
 conv=>arg 1;whnf
 rw[Aa zaa]
 conv=>arg 1;whnf
 rw[Aa zaa]
 conv=>arg 1;whnf
 rw[Aa zaa]
 conv=>arg 1;whnf
 rw[Aa zaa]
 conv=>arg 1;whnf
 rw[AL]
 conv=>arg 1;whnf
 rw[Aa zaa]
 conv=>arg 1;whnf
 rw[Aa zaa]
 conv=>arg 1;whnf
 rw[Aa zaa]
 conv=>arg 1;whnf
 rw[Aa zaa]
 conv=>arg 1;whnf
 rw[Aa zaa]
 conv=>arg 1;whnf
 rw[Aa zaa]
 conv=>arg 1;whnf
 rw[Aa zaa]
 conv=>arg 1;whnf
 rw[Aa zaa]
 conv=>arg 1;whnf
 rw[Aa zaa]
 conv=>arg 1;whnf
 rw[Aa zaa]
 conv=>arg 1;whnf
 rw[Aa zaa]
 conv=>arg 1;whnf
 rw[Aa zaa]
 conv=>arg 1;whnf
 rw[Aa zaa]
 conv=>arg 1;whnf
 rw[Aa zaa]
 conv=>arg 1;whnf
 rw[Aa zaa]
 conv=>arg 1;whnf
 rw[Aa zaa]
 conv=>arg 1;whnf
 rw[Aa zaa]
 conv=>arg 1;whnf
 rw[Aa zaa]
 conv=>arg 1;whnf
 rw[Aa zaa]
 conv=>arg 1;whnf
 rw[Aa zaa]
 conv=>arg 1;whnf
 rw[AL]
 conv=>arg 1;whnf
 rw[Aa zaa]
 conv=>arg 1;whnf
 rw[Aa zaa]
 conv=>arg 1;whnf
 rw[Aa zaa]
 conv=>arg 1;whnf
 rw[Aa zaa]
 conv=>arg 1;whnf
 rw[Aa zaa]
 conv=>arg 1;whnf
 rcases Ar (k'%48) 32 with hc0|hc0
 ·refine tw ?_;obtain⟨h1,⟨h1_1,h1_2⟩,yy1⟩:=Kr s (n%1073741824) 0 hi AA;refine Dv yy1 ?_;refine hP _ ⟨20,[],[],[h1],[],?_,rfl⟩;exact CB
 refine tw ?_
 rcases Ar (k'%48) 33 with hc2|hc2
 ·rw[Dz zaa]
  conv=>arg 1;whnf
  rw[Aa zaa]
  conv=>arg 1;whnf
  rw[Aa zaa]
  conv=>arg 1;whnf
  try dsimp -iota -beta -eta -zeta only
  rw[F6 zaa];rw[AX];obtain⟨i13,i23_1,i33_2,i43_3,o3_4,u3_5,⟨h3_6,h3_7⟩,yy3⟩:=zD s (n%1073741824/2) (List.take (Int.toNat 60) b) hi AA AA;refine Dv yy3 ?_;obtain⟨y14,y24_1,y34_2,⟨h4_3,h4_4⟩,yy4⟩:=Dn s 21 (1+n%1073741824%2) [] [i13,i23_1,i33_2,i43_3] [o3_4,u3_5] (m%1073741824) (List.take (Int.toNat 60) b) hi zaS AA AA;refine Dv yy4 ?_;refine hP _ ⟨21,[1+n%1073741824%2],[(y14,y24_1,y34_2)],[i13,i23_1,i33_2,i43_3],[o3_4,u3_5],?_,rfl⟩;exact CB
 refine tw ?_
 rcases Ar (k'%48) 34 with hc5|hc5
 ·rw[Dz zaa]
  conv=>arg 1;whnf
  rw[Aa zaa]
  conv=>arg 1;whnf
  rw[Aa zaa]
  conv=>arg 1;whnf
  try dsimp -iota -beta -eta -zeta only
  rw[F6 zaa];rw[AX];obtain⟨i16,i26_1,i36_2,i46_3,o6_4,u6_5,⟨h6_6,h6_7⟩,yy6⟩:=zD s (n%1073741824/2) (List.take (Int.toNat 60) b) hi AA AA;refine Dv yy6 ?_;obtain⟨y17,y27_1,y37_2,⟨h7_3,h7_4⟩,yy7⟩:=Dn s 21 (1+n%1073741824%2) [] [i16,i26_1,i36_2,i46_3] [o6_4,u6_5] (m%1073741824) (List.take (Int.toNat 60) b) hi zaS AA AA;refine Dv yy7 ?_;refine hP _ ⟨21,[1+n%1073741824%2],[(y17,y27_1,y37_2)],[i16,i26_1,i36_2,i46_3],[o6_4,u6_5],?_,rfl⟩;exact CB
 refine tw ?_
 rcases Ar (k'%48) 35 with hc8|hc8
 ·rw[Dz zaa]
  conv=>arg 1;whnf
  rw[Aa zaa]
  conv=>arg 1;whnf
  rw[Aa zaa]
  conv=>arg 1;whnf
  try dsimp -iota -beta -eta -zeta only
  rw[F6 zaa];rw[AX];obtain⟨h9,⟨h9_1,h9_2⟩,yy9⟩:=XL s (n%1073741824/2) hi AA;refine Dv yy9 ?_;obtain⟨y110,y210_1,y310_2,⟨h10_3,h10_4⟩,yy10⟩:=Dn s 22 (1+n%1073741824%2) [] [h9-256] [] (m%1073741824) (List.take (Int.toNat 60) b) hi zaS AA AA;refine Dv yy10 ?_;refine hP _ ⟨22,[1+n%1073741824%2],[(y110,y210_1,y310_2)],[h9-256],[],?_,rfl⟩;exact CB
 refine tw ?_
 rcases Ar (k'%48) 36 with hc11|hc11
 ·refine tw ?_;obtain⟨c12,h112_1,h212_2,is12_3,bs12_4,⟨h12_5,h12_6,h12_7⟩,yy12⟩:=LH s (k'%48-36) (n%1073741824) (List.take (Int.toNat 60) b) hi AA AA AA;refine Dv yy12 ?_;obtain⟨y113,y213_1,y313_2,⟨h13_3,h13_4⟩,yy13⟩:=Dn s c12 h112_1 [h212_2] is12_3 bs12_4 (m%1073741824) (List.take (Int.toNat 60) b) hi zaS AA AA;refine Dv yy13 ?_;refine hP _ ⟨c12,[h112_1,h212_2],[(y113,y213_1,y313_2)],is12_3,bs12_4,?_,rfl⟩;exact CB
 refine tw ?_
 rcases Ar (k'%48) 37 with hc14|hc14
 ·refine tw ?_;obtain⟨c15,h115_1,h215_2,is15_3,bs15_4,⟨h15_5,h15_6,h15_7⟩,yy15⟩:=LH s (k'%48-36) (n%1073741824) (List.take (Int.toNat 60) b) hi AA AA AA;refine Dv yy15 ?_;obtain⟨y116,y216_1,y316_2,⟨h16_3,h16_4⟩,yy16⟩:=Dn s c15 h115_1 [h215_2] is15_3 bs15_4 (m%1073741824) (List.take (Int.toNat 60) b) hi zaS AA AA;refine Dv yy16 ?_;refine hP _ ⟨c15,[h115_1,h215_2],[(y116,y216_1,y316_2)],is15_3,bs15_4,?_,rfl⟩;exact CB
 refine tw ?_
 rcases Ar (k'%48) 38 with hc17|hc17
 ·refine tw ?_;obtain⟨c18,h118_1,h218_2,is18_3,bs18_4,⟨h18_5,h18_6,h18_7⟩,yy18⟩:=LH s (k'%48-36) (n%1073741824) (List.take (Int.toNat 60) b) hi AA AA AA;refine Dv yy18 ?_;obtain⟨y119,y219_1,y319_2,⟨h19_3,h19_4⟩,yy19⟩:=Dn s c18 h118_1 [h218_2] is18_3 bs18_4 (m%1073741824) (List.take (Int.toNat 60) b) hi zaS AA AA;refine Dv yy19 ?_;refine hP _ ⟨c18,[h118_1,h218_2],[(y119,y219_1,y319_2)],is18_3,bs18_4,?_,rfl⟩;exact CB
 refine tw ?_
 rcases Ar (k'%48) 39 with hc20|hc20
 ·refine tw ?_;obtain⟨c21,h121_1,h221_2,is21_3,bs21_4,⟨h21_5,h21_6,h21_7⟩,yy21⟩:=LH s (k'%48-36) (n%1073741824) (List.take (Int.toNat 60) b) hi AA AA AA;refine Dv yy21 ?_;obtain⟨y122,y222_1,y322_2,⟨h22_3,h22_4⟩,yy22⟩:=Dn s c21 h121_1 [h221_2] is21_3 bs21_4 (m%1073741824) (List.take (Int.toNat 60) b) hi zaS AA AA;refine Dv yy22 ?_;refine hP _ ⟨c21,[h121_1,h221_2],[(y122,y222_1,y322_2)],is21_3,bs21_4,?_,rfl⟩;exact CB
 refine tw ?_
 rcases Ar (k'%48) 40 with hc23|hc23
 ·refine tw ?_;obtain⟨c24,h124_1,h224_2,is24_3,bs24_4,⟨h24_5,h24_6,h24_7⟩,yy24⟩:=LH s (k'%48-36) (n%1073741824) (List.take (Int.toNat 60) b) hi AA AA AA;refine Dv yy24 ?_;obtain⟨y125,y225_1,y325_2,⟨h25_3,h25_4⟩,yy25⟩:=Dn s c24 h124_1 [h224_2] is24_3 bs24_4 (m%1073741824) (List.take (Int.toNat 60) b) hi zaS AA AA;refine Dv yy25 ?_;refine hP _ ⟨c24,[h124_1,h224_2],[(y125,y225_1,y325_2)],is24_3,bs24_4,?_,rfl⟩;exact CB
 refine tw ?_
 rcases Ar (k'%48) 41 with hc26|hc26
 ·refine tw ?_;obtain⟨c27,h127_1,h227_2,is27_3,bs27_4,⟨h27_5,h27_6,h27_7⟩,yy27⟩:=LH s (k'%48-36) (n%1073741824) (List.take (Int.toNat 60) b) hi AA AA AA;refine Dv yy27 ?_;obtain⟨y128,y228_1,y328_2,⟨h28_3,h28_4⟩,yy28⟩:=Dn s c27 h127_1 [h227_2] is27_3 bs27_4 (m%1073741824) (List.take (Int.toNat 60) b) hi zaS AA AA;refine Dv yy28 ?_;refine hP _ ⟨c27,[h127_1,h227_2],[(y128,y228_1,y328_2)],is27_3,bs27_4,?_,rfl⟩;exact CB
 refine tw ?_
 rcases Ar (k'%48) 42 with hc29|hc29
 ·refine tw ?_;obtain⟨c30,h130_1,h230_2,is30_3,bs30_4,⟨h30_5,h30_6,h30_7⟩,yy30⟩:=LH s (k'%48-36) (n%1073741824) (List.take (Int.toNat 60) b) hi AA AA AA;refine Dv yy30 ?_;obtain⟨y131,y231_1,y331_2,⟨h31_3,h31_4⟩,yy31⟩:=Dn s c30 h130_1 [h230_2] is30_3 bs30_4 (m%1073741824) (List.take (Int.toNat 60) b) hi zaS AA AA;refine Dv yy31 ?_;refine hP _ ⟨c30,[h130_1,h230_2],[(y131,y231_1,y331_2)],is30_3,bs30_4,?_,rfl⟩;exact CB
 refine tw ?_;obtain⟨c32,h132_1,h232_2,is32_3,bs32_4,⟨h32_5,h32_6,h32_7⟩,yy32⟩:=LH s (k'%48-36) (n%1073741824) (List.take (Int.toNat 60) b) hi AA AA AA;refine Dv yy32 ?_;obtain⟨y133,y233_1,y333_2,⟨h33_3,h33_4⟩,yy33⟩:=Dn s c32 h132_1 [h232_2] is32_3 bs32_4 (m%1073741824) (List.take (Int.toNat 60) b) hi zaS AA AA;refine Dv yy33 ?_;refine hP _ ⟨c32,[h132_1,h232_2],[(y133,y233_1,y333_2)],is32_3,bs32_4,?_,rfl⟩;exact CB
end
section
attribute [local irreducible] BG DY CY nameB Eh Ef Az Ei Eo F5 Ff Fh Bg Io GI JD Jk JE Jh Ha NZ Na IJ
theorem A1K(s:MS)(k' n m:Int)(b:List UInt8){a k:Int}(hi:Kp a k s)(hq:44<=k'%48/\k'%48<=47)(hb:b.length<=140737488355328):EC E0 (.call 8 [av s,.i k',.i n,.i m,.sl .u8 b] []) fun r=>∃(c:Int) (hs:List Int) (az:List (El AB)) (is:List Int) (bs:List (List UInt8)),(Few hs az is bs)/\r=some (.ret (rq c hs az is bs) []):=by
 have hol:=hi.obl
 have hsl:=hi.ssl
 have hac:=hi.ac
 refine G5 fun P hP=>tw ?_
 rw[Ht _ _ zaa];refine tw ?_;rw[Ht _ _ zaa];refine tw ?_;rw[Ht _ _ zaa];refine tw ?_;rw[FU _ _ AA]
 conv=>arg 1;whnf
 rw[FH zay]
 conv=>arg 1;whnf
 rw[FH zay]
 conv=>arg 1;whnf
 rw[Aa zaa]
 conv=>arg 1;whnf
 rw[Aa zaa]
 conv=>arg 1;whnf
 rw[Aa zaa]
 conv=>arg 1;whnf
 rw[Aa zaa]
 conv=>arg 1;whnf
 rw[Aa zaa]
 conv=>arg 1;whnf
 rw[Aa zaa]
 conv=>arg 1;whnf
 rw[Aa zaa]
 conv=>arg 1;whnf
 rw[AL]
 conv=>arg 1;whnf
 rw[Aa zaa]
 conv=>arg 1;whnf
 rw[Aa zaa]
 conv=>arg 1;whnf
 rw[Aa zaa]
 conv=>arg 1;whnf
 rw[Aa zaa]
 conv=>arg 1;whnf
 rw[Aa zaa]
 conv=>arg 1;whnf
 rw[Aa zaa]
 conv=>arg 1;whnf
 rw[Aa zaa]
 conv=>arg 1;whnf
 rw[Aa zaa]
 conv=>arg 1;whnf
 rw[Aa zaa]
 conv=>arg 1;whnf
 rw[Aa zaa]
 conv=>arg 1;whnf
 rw[Aa zaa]
 conv=>arg 1;whnf
 rw[Aa zaa]
 conv=>arg 1;whnf
 rw[Aa zaa]
 conv=>arg 1;whnf
 rw[Aa zaa]
 conv=>arg 1;whnf
 rw[Aa zaa]
 conv=>arg 1;whnf
 rw[Aa zaa]
 conv=>arg 1;whnf
 rw[Aa zaa]
 conv=>arg 1;whnf
 rw[Aa zaa]
 conv=>arg 1;whnf
 rw[Aa zaa]
 conv=>arg 1;whnf
 rw[Aa zaa]
 conv=>arg 1;whnf
 rw[AL]
 conv=>arg 1;whnf
 rw[Aa zaa]
 conv=>arg 1;whnf
 rw[Aa zaa]
 conv=>arg 1;whnf
 rw[Aa zaa]
 conv=>arg 1;whnf
 rw[Aa zaa]
 conv=>arg 1;whnf
 rw[Aa zaa]
 conv=>arg 1;whnf
 rw[Aa zaa]
 conv=>arg 1;whnf
 rw[Aa zaa]
 conv=>arg 1;whnf
 rw[Aa zaa]
 conv=>arg 1;whnf
 rw[Aa zaa]
 conv=>arg 1;whnf
 rw[Aa zaa]
 conv=>arg 1;whnf
 rw[Aa zaa]
 conv=>arg 1;whnf
 rw[Aa zaa]
 conv=>arg 1;whnf
 rw[Aa zaa]
 conv=>arg 1;whnf
 rw[Aa zaa]
 conv=>arg 1;whnf
 rw[Aa zaa]
 conv=>arg 1;whnf
 rw[Aa zaa]
 conv=>arg 1;whnf
 rw[Aa zaa]
 conv=>arg 1;whnf
 rcases Ar (k'%48) 44 with hc0|hc0
 ·rw[Dz zaa]
  conv=>arg 1;whnf
  rw[Aa zaa]
  conv=>arg 1;whnf
  rw[Aa zaa]
  conv=>arg 1;whnf
  rw[Aa zaa]
  conv=>arg 1;whnf
  try dsimp -iota -beta -eta -zeta only
  rw[F6 zaa];rw[Ew zaa];rw[AX];rw[FU _ _ AA];refine tw ?_;obtain⟨y11,y21_1,y31_2,⟨h1_3,h1_4⟩,yy1⟩:=Dn s 30 (n%1073741824%4) [] [] [List.take (n%1073741824/4%3).toNat (List.take (Int.toNat 60) b)] (m%1073741824) (List.take (Int.toNat 60) b) hi zaS AA AA;refine Dv yy1 ?_;refine hP _ ⟨30,[n%1073741824%4],[(y11,y21_1,y31_2)],[],[List.take (n%1073741824/4%3).toNat (List.take (Int.toNat 60) b)],?_,rfl⟩;exact CB
 refine tw ?_
 rcases Ar (k'%48) 45 with hc2|hc2
 ·rw[Dz zaa]
  conv=>arg 1;whnf
  rw[Aa zaa]
  conv=>arg 1;whnf
  rw[Ew zaa];rw[Bj zaa];rw[AL]
  conv=>arg 1;whnf
  rw[Aa zaa]
  conv=>arg 1;whnf
  rw[Ew zaa]
  rcases Bc 0 (n%1073741824%4) with hc3|hc3
  ·refine tw ?_;obtain⟨y14,y24_1,y34_2,⟨h4_3,h4_4⟩,yy4⟩:=Dn s 32 3 [] [] [] (m%1073741824) (List.take (Int.toNat 60) b) hi zaS AA AA;refine Dv yy4 ?_;refine hP _ ⟨32,[3],[(y14,y24_1,y34_2)],[],[],?_,rfl⟩;exact CB
  refine tw ?_;obtain⟨y15,y25_1,y35_2,⟨h5_3,h5_4⟩,yy5⟩:=Dn s 31 (2+n%1073741824%2) [] [] [] (m%1073741824) (List.take (Int.toNat 60) b) hi zaS AA AA;refine Dv yy5 ?_;refine hP _ ⟨31,[2+n%1073741824%2],[(y15,y25_1,y35_2)],[],[],?_,rfl⟩;exact CB
 refine tw ?_
 rcases Ar (k'%48) 46 with hc6|hc6
 ·refine tw ?_;obtain⟨y17,y27_1,y37_2,⟨h7_3,h7_4⟩,yy7⟩:=Dn s 33 3 [] [1+n%1073741824%6,n%1073741824%40,n%1073741824/5%40] [] (m%1073741824) (List.take (Int.toNat 60) b) hi zaS AA AA;refine Dv yy7 ?_;refine hP _ ⟨33,[3],[(y17,y27_1,y37_2)],[1+n%1073741824%6,n%1073741824%40,n%1073741824/5%40],[],?_,rfl⟩;exact CB
 refine tw ?_
 rcases Bc 0 (n%1073741824%4) with hc8|hc8
 ·refine tw ?_;refine hP _ ⟨1,[],[],[n%1073741824%2],[],?_,rfl⟩;exact CB
 refine tw ?_;refine hP _ ⟨2,[],[],[n%1073741824%2],[],?_,rfl⟩;exact CB
end
end Go.Proofs.YtlpkjhhfhannpaaGreatDoor
