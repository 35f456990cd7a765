/-
  Own texts, laid together for this claim: contracts of functions of the program and its references, used by the statements of this seat.
-/
import Derived.Test.YtanagnimhaemgaaGreatDoorKtac
import Derived.Test.YtanagnimhaemgaaGreatDoorKtad
import Derived.Test.YtanagnimhaemgaaGreatDoorKtaf
import Derived.Test.YtanagnimhaemgaaGreatDoorKtag
import Derived.Test.YtanagnimhaemgaaGreatDoorKtaj
import Derived.Test.YtanagnimhaemgaaGreatDoorKtak
import Derived.Test.YtanagnimhaemgaaGreatDoorKtar
import Derived.Test.YtanagnimhaemgaaGreatDoorKtaw
import Derived.Test.YtanagnimhaemgaaGreatDoorKtax
import Derived.Test.YtanagnimhaemgaaGreatDoorKtba
import Derived.Test.YtanagnimhaemgaaGreatDoorKtbb
import Derived.Test.YtanagnimhaemgaaGreatDoorKtbc
import Derived.Test.YtanagnimhaemgaaGreatDoorKtbd
import Derived.Test.YtanagnimhaemgaaGreatDoorKtbe
set_option linter.all false
set_option maxHeartbeats 40000000
set_option maxRecDepth 100000
namespace Go.Proofs.YtanagnimhaemgaaGreatDoor
open Go Go.Ax Go.Eng
variable (A d U:List UInt8)(R:Int)(S:List UInt8)(K:Int)(ar:List (List UInt8))(v:List UInt8)
section
attribute [local irreducible] Bl CS CU CJ Bh Ak CV Du EN E5 EH Be BN CE Bz and' CG CO BC Ag Ar BF BG AY Aa AP AX CW Dv CX DT C9 BJ BD BA BB Au AQ Az Ac Aw Ah CY BL Bi BR BI CB CZ CP fits Cb CQ A8 AA AZ
theorem qw:SK 32 (GR 32):=⟨Gh 32 16,fun x hx=>by
 simp only[GR,Je,List.mem_map] at hx
 obtain⟨i,-,rfl⟩:=hx
 exact List.length_replicate⟩
theorem A5U:A2y 2 (BZ 2):=.inr ⟨[],GR 32,rfl,.inl rfl,.inr qw,fun _=>qw⟩
theorem nJ:Y E0 (.call 32 [.agg [.sl (.sl (.sl .u8)) (BZ 2),.i 0],.agg [.i 0,.i 1]] [])=some (.ret (.tup [.sl .u8 NY,.i 0]) []):=by
 obtain⟨d,er,-,h1,h2⟩:=A1P 0 0 1 A5U
 have h3:=qc 0
 rw[show([[],GR 32]:List (List (List UInt8)))=BZ 2 from rfl,h1] at h3
 simp only[Option.some.injEq,Rsp.ret.injEq,AV.tup.injEq,List.cons.injEq,AV.sl.injEq,AV.i.injEq,heq_eq_eq,true_and,and_true] at h3
 rw[h2,h3.1,h3.2]
theorem Pz:Y E0 (.call 7 [] [])=some (.ret (.b true) []):=by
 obtain⟨P,hP⟩:∃ P,V4 zen NY=P:=⟨_,rfl⟩
 have hPl:P.length=32:=by rw[<-hP];exact X6 _ _
 obtain⟨ar,wr,nx,ar1,wr1,XB,U,S,B1,B2,hU,hS,k1,k2,k3,hf,m1⟩:=A84 P hPl
 obtain⟨ar2,wr2,nx2,ar3,wr3,nx3,ar4,wr4,nx4,n,s1,s2,s3,c1,c2,c3⟩:=A85 P U S hP.symm hU ar1 wr1 XB k1 k2 k3
 have h8:=A0d 2 zaa
 have h9:=A1T NY Ym
 rw[hP] at h9
 refine tq ?_
 rw[hf]
 refine tq ?_
 rw[h8]
 refine tq ?_
 rw[nJ]
 refine tq ?_
 rw[h9]
 refine tq ?_
 rw[JG ..]
 refine tq ?_
 rw[show([UInt8.ofNat 9]:List UInt8)=[9] from rfl,m1]
 refine tq ?_
 rw[A1a _]
 refine tq ?_
 rw[c1]
 refine tq ?_
 rw[nI _]
 refine tq ?_
 rw[c2]
 refine tq ?_
 rw[XA ..]
 refine tq ?_
 rw[A6f ..]
 refine tq ?_
 rw[c3]
 conv=>lhs;whnf
 try dsimp -iota -beta -eta -zeta only
 rw[drw zai];conv=>lhs;whnf
 rw[wI];conv=>lhs;whnf
 rw[Ep zaC]
 conv=>lhs;whnf
 rw[wI];conv=>lhs;whnf
 rw[wI];conv=>lhs;whnf
 rw[JL,Ep (by rfl)]
end
section
attribute [local irreducible] Bl CS CU CJ Bh Ak CV Du EN E5 EH Be BN CE Bz and' CG CO BC Ag Ar BF BG AY Aa AP AX CW Dv CX DT C9 BJ BD BA BB Au AQ Az Ac Aw Ah CY BL Bi BR BI CB CZ CP fits Cb CQ A8 AA AZ
noncomputable def Q3(R K:Int)(od:Bool):List UInt8:=Ye (BK zen JP [0] 32) (BK zen JP [1] 32) (BK zen JP [2] 32) (BK zen Bc [] 32) R K od
theorem MP(O:Bool):(Q3 R K O).length=240:=qZ _ _ _ _ (Eb zaa) (Eb zaa) (Eb zaa) (Eb zaa) R K O
theorem nK{R K R' K':Int}{O O':Bool}(hr:0<=R/\R<=255)(hf:0<=K/\K<=255)(hr':0<=R'/\R'<=255)(hf':0<=K'/\K'<=255)(h:R≠R'\/K≠K'):Q3 R K O≠Q3 R' K' O':=A5O _ _ _ _ hr hf hr' hf' h
theorem TB(hR:0<=R/\R<=255)(hK:0<=K/\K<=5):stOK (Aq zen) [[],[],[],[]] (BK zen Bc [] 32) 2 R 0 0 0 0 [] K 5 100 0 0 1000 []:=by
 have h:=Qb 1 zaa
 refine⟨h.sl,h.al,h.sm,h.am,h.en,h.ac,by omega,by decide,by decide,by decide,by decide,by decide,by simp,?_,by decide,by simp⟩
 unfold Zl;omega
def tkA(ar:List (List UInt8))(q R K:Int):Prop:=ar.length=4/\2<=q/\q<=200/\ar[(q%2).toNat]?=some (Gv q (Q3 R K false))/\∃ R' O',(0<=R'/\R'<=R)/\ar[((q+1)%2).toNat]?=some (Gv (q-1) (Q3 R' K O'))
noncomputable def nxA(ar:List (List UInt8))(q:Int)(p:List UInt8):List (List UInt8):=BL ar (q%2) (Gv q p)
theorem rC(q:Int)(p:List UInt8):(nxA ar q p).length=ar.length:=by rw[nxA,EU,List.length_set]
theorem UI{ar:List (List UInt8)}{q:Int}{x:List UInt8}(h:ar.length=4):(BL ar (q%2) x)[(q%2).toNat]?=some x:=by rw[EU,List.getElem?_set_self zaa]
theorem Yp{ar:List (List UInt8)}{q:Int}{x:List UInt8}:(BL ar (q%2) x)[((q+1)%2).toNat]?=ar[((q+1)%2).toNat]?:=by rw[EU,List.getElem?_set_ne zaa]
theorem A86(q R K:Int)(O:Bool)(h1:Y E0 (.call 50 [.agg [.sl (.sl .u8) ar,.i 0,.i 0,.i 0,.b false],.i 0] [])=some (.ret (.tup [.sl .u8 (Q3 R K O),.i q,.i 0]) []))(hl:ar.length=4)(hq:1<=q/\q<=190)(hR:0<=R/\R<=190)(hK:0<=K/\K<=5)(wr cu to nx:Int)(of on:Bool)(sd0:List (List UInt8))(au0:List (List UInt8))(en0:List UInt8)(ac0:Int)(re0:Int)(rs0:Int)(ck0:Int)(od0:Bool)(su0:Int)(mc0:Int)(ix0:List (El AB))(l10:Int)(l20:Int)(l30:Int)(l40:Int)(l50:Int)(l60:Int)(ks0:List (El BP))(st0:Bool)(sp0:Bool)(rb0:List (List (List UInt8)))(ru0:Int)(vc0:Int)(sf0:Bool)(dr0:Int)(ss0:List (El sesT))(ob0:List (El objT))(rl0:List Int)(wl0:List Int):
  Y E0 (.call 16 [Gm ar wr cu to of sd0 au0 en0 ac0 re0 rs0 ck0 od0 [] su0 mc0 ix0 l10 l20 l30 l40 l50 l60 ks0 st0 sp0 rb0 ru0 vc0 sf0 dr0 ss0 ob0 rl0 wl0 on nx] [])=some (.ret (.tup [Gm (nxA ar (q+1) (Q3 (R+1) K false)) 1 0 0 false (Aq zen) [[],[],[],[]] (BK zen Bc [] 32) 2 (R+1) 0 0 false [] 0 0 [] K 5 100 0 0 1000 [] true false (BZ 2) 0 0 O 0 ED H8 [] [] true (q+2),.b true]) []):=by
 have ok0:=TB R K zaa hK
 have ok1:=TB (R+1) K zaa hK
 have hon:=A1A ar wr cu to nx q (Aq zen) [[],[],[],[]] (BK zen Bc [] 32) 2 R 0 0 O 0 0 K 5 100 0 0 1000 h1 zaa zac ok0.sl ok0.al ok0.sm ok0.am ok0.en ok0.re ok0.rs ok0.ck ok0.su ok0.mc ok0.lk
 have hx:=qW (Aq zen) [[],[],[],[]] (BK zen Bc [] 32) 2 R 0 0 O 0 0 [] K 5 100 0 0 1000 [] false false [] 0 0 false 0 ED H8 [] [] ⟨rfl,rfl⟩ rfl zaa
 have hp:rpG 0 [] [] []:=jS 0 (.inl rfl)
 have q1:=A1B ar 0 0 (q+1) 0 (Aq zen) [[],[],[],[]] (BK zen Bc [] 32) 2 R 0 0 O 0 0 [] K 5 100 0 0 1000 [] false false [] 0 0 false 0 ED H8 [] [] (Aq zen) [[],[],[],[]] (BK zen Bc [] 32) 2 (R+1) 0 0 false 0 0 [] K 5 100 0 0 1000 [] true false (BZ 2) 0 0 O 0 ED H8 [] [] 1 0 [] [] [0] [] 0 [] [] [] A14 hp ok0 ok1 (nK (R:=R+1) (K:=K) (R':=R) (K':=K) (O:=false) (O':=O) zaa zaa zaa zaa (.inl zaa)) ⟨by omega,by omega⟩ zaa zaa hx
 rw[show q+1+1=q+2 from by omega,show(0:Int)+1=1 from rfl] at q1
 have hm:=O9 ar _ 0 0 (q+1) 1 (q+2) 0 (Aq zen) [[],[],[],[]] (BK zen Bc [] 32) 2 R 0 0 O 0 0 [] K 5 100 0 0 1000 [] false false [] 0 0 false 0 ED H8 [] [] (Aq zen) [[],[],[],[]] (BK zen Bc [] 32) 2 (R+1) 0 0 false 0 0 [] K 5 100 0 0 1000 [] true false (BZ 2) 0 0 O 0 ED H8 [] [] 1 [] [] [0] [] 0 0 0 [] [] [] q1 zac rfl rfl rfl
 exact X0 ar _ wr 1 cu to 0 nx (q+2) (q+1) of on sd0 au0 en0 ac0 re0 rs0 ck0 od0 su0 mc0 ix0 l10 l20 l30 l40 l50 l60 ks0 st0 sp0 rb0 ru0 vc0 sf0 dr0 ss0 ob0 rl0 wl0 (Aq zen) [[],[],[],[]] (BK zen Bc [] 32) 2 (R+1) 0 0 false 0 0 [] K 5 100 0 0 1000 [] true false (BZ 2) 0 0 O 0 ED H8 [] [] (Aq zen) [[],[],[],[]] (BK zen Bc [] 32) 2 R 0 0 O 0 0 K 5 100 0 0 1000 hon hm
theorem A3a:EG ⟨3,1,0,[],List.replicate (uniq 3).toNat 0⟩=0:=by
 unfold EG
 simp[uniq];decide
theorem A6h(hA:A.length<=32)(hd:d.length<=128)(R K:Int)(hR:0<=R/\R<=255)(hK:0<=K/\K<=5)(F:Bool)(ar:List (List UInt8))(nx:Int):∃ U S B1 B2,U.length=32/\S.length=32 /\
  Y E0 (.call 9 [Gm ar 1 0 0 false (Aq zen) [[],[],[],[]] (BK zen Bc [] 32) 2 R 0 0 false [] 0 0 [] K 5 100 0 0 1000 [] true false (BZ 2) 0 0 F 0 ED H8 [] [] true nx,.i 0,rq 9 [0] [(0,[],[])] [3,1,0] [[],A,d],.i 1,.i 2] [])=some (.ret (.tup [Gm ar 1 0 0 false (Aq zen) [[],[],[],[]] (BK zen Bc [] 32) 2 R 0 0 false [] 0 0 [] K 5 100 0 0 1000 [] true false (BZ 2) 0 0 F 0 ED [((3,1,0,[],U),(A,S,d),0),Q4,Q4] [] [] true nx,Jw 0 [512] [B1,B2] [],.b true]) []):=by
 obtain⟨S,-,hS,hp⟩:=pX (sd:=Aq zen) (ob:=H8) (h:=0) (k:=3) (a:=1) (t:=0) (o:=[]) (auth:=A) (d:=d) (by rw[A3Z];decide) zac A3a hA hd (fun _=>rfl)
 rw[show Fb H8=0 from rfl] at hp
 have hu:(Dz 3 0 ⟨A,S,d⟩).length=32:=by unfold Dz;rw[if_neg zac];exact A7 _
 have hb1:(ET ⟨3,1,0,[],Dz 3 0 ⟨A,S,d⟩⟩).length<=1024:=by rw[WY zan (by simp only;omega)];simp only[List.length_nil];omega
 have hb2:(nameB ⟨3,1,0,[],Dz 3 0 ⟨A,S,d⟩⟩).length<=1024:=by rw[He];decide
 generalize ET ⟨3,1,0,[],Dz 3 0 ⟨A,S,d⟩⟩=B1 at hp hb1
 generalize nameB ⟨3,1,0,[],Dz 3 0 ⟨A,S,d⟩⟩=B2 at hp hb2
 generalize Dz 3 0 ⟨A,S,d⟩=U at hp hu
 have ok:=TB R K hR hK
 have hq:=A4B 0 3 1 0 [] A d zaa zaa zaa zaa zan zaa zaa
 have x1:=qp (Aq zen) [[],[],[],[]] (BK zen Bc [] 32) 2 R 0 0 false 0 0 [] K 5 100 0 0 1000 [] true false (BZ 2) 0 0 F 0 ED H8 [] [] 0 3 1 0 [] A d rfl zaa zan zan zan rfl (by rw[wI]) (by rw[A3Z];omega) A6g zan zaa _ _ _ hp hq
 have q1:=mD ar 1 0 0 nx 0 (Aq zen) [[],[],[],[]] (BK zen Bc [] 32) 2 R 0 0 false 0 0 [] K 5 100 0 0 1000 [] true false (BZ 2) 0 0 F 0 ED H8 [] [] (Aq zen) [[],[],[],[]] (BK zen Bc [] 32) 2 R 0 0 false 0 0 [] K 5 100 0 0 1000 [] true false (BZ 2) 0 0 F 0 ED [((3,1,0,[],U),(A,S,d),0),Q4,Q4] [] [] 9 3 [0] [(0,[],[])] [3,1,0] [[],A,d] 0 [512] [B1,B2] [] hq ⟨.inl rfl,by simp,by simp,by simp,by simp,by intro x hx;simp at hx;rcases hx with rfl|rfl<;>assumption,by simp⟩ ok ok rfl x1
 exact⟨U,S,B1,B2,hu,hS,O9 ar ar 1 0 nx 1 nx 0 (Aq zen) [[],[],[],[]] (BK zen Bc [] 32) 2 R 0 0 false 0 0 [] K 5 100 0 0 1000 [] true false (BZ 2) 0 0 F 0 ED H8 [] [] (Aq zen) [[],[],[],[]] (BK zen Bc [] 32) 2 R 0 0 false 0 0 [] K 5 100 0 0 1000 [] true false (BZ 2) 0 0 F 0 ED [((3,1,0,[],U),(A,S,d),0),Q4,Q4] [] [] 9 [0] [(0,[],[])] [3,1,0] [[],A,d] 0 1 2 [512] [B1,B2] [] q1 zan rfl rfl rfl⟩
theorem A3b:Ak .and 1 1=1:=by rw[Ba];decide
theorem A3c:Ak .and 1 2=0:=by rw[Ba];decide
abbrev XC(U A S d:List UInt8):List (El objT):=[((3,1,0,[],U),(A,S,d),0),Q4,Q4]
theorem A87(hU:U.length=32)(hA:A.length<=100)(hv:v.length<=100)(hvA:v≠A)(R K:Int)(hR:0<=R/\R<=255)(hK:0<=K/\K<5)(F:Bool)(ar:List (List UInt8))(hl:ar.length=4)(nx:Int)(hn:1<=nx/\nx<=900):
  Y E0 (.call 13 [Gm ar 1 0 0 false (Aq zen) [[],[],[],[]] (BK zen Bc [] 32) 2 R 0 0 false [] 0 0 [] K 5 100 0 0 1000 [] true false (BZ 2) 0 0 F 0 ED (XC U A S d) [] [] true nx,.i 0,rq 13 [512] [(0,[],v)] [] []] [])=some (.ret (.tup [Gm (nxA ar nx (Q3 R (K+1) false)) 2 0 0 false (Aq zen) [[],[],[],[]] (BK zen Bc [] 32) 2 R 0 0 false [] 0 0 [] (K+1) 5 100 0 0 1000 [] true false (BZ 2) 0 0 F 0 ED (XC U A S d) [] [] true (nx+1),Jw 9 [] [] [],.b true]) []):=by
 have ok0:=TB R K hR zaa
 have ok1:=TB R (K+1) hR zaa
 have hq:=jR 512 0 zaa zaa v hv
 have x1:=jP (Aq zen) [[],[],[],[]] (BK zen Bc [] 32) 2 R 0 0 false 0 0 [] K 5 100 0 0 1000 [] true false (BZ 2) 0 0 F 0 ED (XC U A S d) [] [] 512 (K+1) v 3 1 0 [] U A S d 0 rfl zaa rfl zan rfl zan zaa A3b A3c (X8 K hK) (jO K hK) zaa hvA hq
 exact A1B ar 1 0 nx 0 (Aq zen) [[],[],[],[]] (BK zen Bc [] 32) 2 R 0 0 false 0 0 [] K 5 100 0 0 1000 [] true false (BZ 2) 0 0 F 0 ED (XC U A S d) [] [] (Aq zen) [[],[],[],[]] (BK zen Bc [] 32) 2 R 0 0 false 0 0 [] (K+1) 5 100 0 0 1000 [] true false (BZ 2) 0 0 F 0 ED (XC U A S d) [] [] 13 0 [512] [(0,[],v)] [] [] 9 [] [] [] hq (jS 9 (.inr zaa)) ok0 ok1 (nK (R:=R) (K:=K+1) (R':=R) (K':=K) (O:=false) (O':=false) hR zaa hR zaa (.inr zaa)) ⟨by omega,by omega⟩ zaa zaa x1
theorem A88(hU:U.length=32)(hA:A.length<=100)(hv:v.length<=100)(hvA:v≠A)(R K:Int)(hR:0<=R/\R<=255)(hK:0<=K/\K<5)(F:Bool)(ar:List (List UInt8))(hl:ar.length=4)(nx:Int)(hn:1<=nx/\nx<=900)(n:Nat)(hnl:n<=255)(old:List UInt8)(hg:Ah ar (nx%2)=some old)(ho:old.length<=60000):
  Y E0 (.call 13 [Gm ar 1 2 (n:Int) false (Aq zen) [[],[],[],[]] (BK zen Bc [] 32) 2 R 0 0 false [] 0 0 [] K 5 100 0 0 1000 [] true false (BZ 2) 0 0 F 0 ED (XC U A S d) [] [] true nx,.i 0,rq 13 [512] [(0,[],v)] [] []] [])=some (.ret (.tup [lI (BL ar (nx%2) (JU n (Gv nx (Q3 R (K+1) false)) old)) 2 2 (n:Int) true false nx,Jw 0 [] [] [],.b false]) []):=by
 have ok0:=TB R K hR zaa
 have ok1:=TB R (K+1) hR zaa
 have hq:=jR 512 0 zaa zaa v hv
 have hL:=MP R (K+1) false
 have x1:=jP (Aq zen) [[],[],[],[]] (BK zen Bc [] 32) 2 R 0 0 false 0 0 [] K 5 100 0 0 1000 [] true false (BZ 2) 0 0 F 0 ED (XC U A S d) [] [] 512 (K+1) v 3 1 0 [] U A S d 0 rfl zaa rfl zan rfl zan zaa A3b A3c (X8 K hK) (jO K hK) zaa hvA hq
 exact A3H ar 1 nx 0 n old (Aq zen) [[],[],[],[]] (BK zen Bc [] 32) 2 R 0 0 false 0 0 [] K 5 100 0 0 1000 [] true false (BZ 2) 0 0 F 0 ED (XC U A S d) [] [] (Aq zen) [[],[],[],[]] (BK zen Bc [] 32) 2 R 0 0 false 0 0 [] (K+1) 5 100 0 0 1000 [] true false (BZ 2) 0 0 F 0 ED (XC U A S d) [] [] 13 0 [512] [(0,[],v)] [] [] 9 [] [] [] hq (jS 9 (.inr zaa)) ok0 ok1 (nK (R:=R) (K:=K+1) (R':=R) (K':=K) (O:=false) (O':=false) hR zaa hR zaa (.inr zaa)) ⟨by omega,by omega⟩ hg ho (Nat.le_trans (by omega:n<=44+(Q3 R (K+1) false).length) (Nat.le_refl _)) zaa zaa x1
theorem A5W(hU:U.length=32)(hA:A.length<=100)(hv:v.length<=100)(R:Int)(hR:0<=R/\R<=255)(F:Bool)(ar:List (List UInt8))(cu to nx:Int):
  Y E0 (.call 13 [Gm ar 1 cu to false (Aq zen) [[],[],[],[]] (BK zen Bc [] 32) 2 R 0 0 false [] 0 0 [] 5 5 100 0 0 1000 [] true false (BZ 2) 0 0 F 0 ED (XC U A S d) [] [] true nx,.i 0,rq 13 [512] [(0,[],v)] [] []] [])=some (.ret (.tup [Gm ar 1 cu to false (Aq zen) [[],[],[],[]] (BK zen Bc [] 32) 2 R 0 0 false [] 0 0 [] 5 5 100 0 0 1000 [] true false (BZ 2) 0 0 F 0 ED (XC U A S d) [] [] true nx,Jw 10 [] [] [],.b true]) []):=by
 have ok0:=TB R 5 hR zaa
 have hq:=jR 512 0 zaa zaa v hv
 have x1:=A1X (Aq zen) [[],[],[],[]] (BK zen Bc [] 32) 2 R 0 0 false 0 0 [] 5 5 100 0 0 1000 [] true false (BZ 2) 0 0 F 0 ED (XC U A S d) [] [] 512 v 3 1 0 [] U A S d 0 rfl zaa rfl zan rfl zan zaa A3b A3c A1V hq
 exact mD ar 1 cu to nx 0 (Aq zen) [[],[],[],[]] (BK zen Bc [] 32) 2 R 0 0 false 0 0 [] 5 5 100 0 0 1000 [] true false (BZ 2) 0 0 F 0 ED (XC U A S d) [] [] (Aq zen) [[],[],[],[]] (BK zen Bc [] 32) 2 R 0 0 false 0 0 [] 5 5 100 0 0 1000 [] true false (BZ 2) 0 0 F 0 ED (XC U A S d) [] [] 13 0 [512] [(0,[],v)] [] [] 10 [] [] [] hq (jS 10 (.inr zaa)) ok0 ok0 rfl x1
theorem A89(hU:U.length=32)(hA:A.length<=100)(hd:d.length<=128)(R K:Int)(hR:0<=R/\R<=255)(hK:0<=K/\K<5)(F:Bool)(ar:List (List UInt8))(cu to nx:Int):
  Y E0 (.call 13 [Gm ar 1 cu to false (Aq zen) [[],[],[],[]] (BK zen Bc [] 32) 2 R 0 0 false [] 0 0 [] K 5 100 0 0 1000 [] true false (BZ 2) 0 0 F 0 ED (XC U A S d) [] [] true nx,.i 0,rq 13 [512] [(0,[],A)] [] []] [])=some (.ret (.tup [Gm ar 1 cu to false (Aq zen) [[],[],[],[]] (BK zen Bc [] 32) 2 R 0 0 false [] 0 0 [] K 5 100 0 0 1000 [] true false (BZ 2) 0 0 F 0 ED (XC U A S d) [] [] true nx,Jw 0 [] [d] [],.b true]) []):=by
 have ok0:=TB R K hR zaa
 have hq:=jR 512 0 zaa zaa A hA
 have x1:=A1W (Aq zen) [[],[],[],[]] (BK zen Bc [] 32) 2 R 0 0 false 0 0 [] K 5 100 0 0 1000 [] true false (BZ 2) 0 0 F 0 ED (XC U A S d) [] [] 512 A 3 1 0 [] U S d 0 rfl zaa rfl zan rfl zan zaa rfl A3b A3c (X8 K hK) zaa hq
 exact mD ar 1 cu to nx 0 (Aq zen) [[],[],[],[]] (BK zen Bc [] 32) 2 R 0 0 false 0 0 [] K 5 100 0 0 1000 [] true false (BZ 2) 0 0 F 0 ED (XC U A S d) [] [] (Aq zen) [[],[],[],[]] (BK zen Bc [] 32) 2 R 0 0 false 0 0 [] K 5 100 0 0 1000 [] true false (BZ 2) 0 0 F 0 ED (XC U A S d) [] [] 13 0 [512] [(0,[],A)] [] [] 0 [] [d] [] hq ⟨.inl rfl,by simp,by simp,by simp,by simp,by intro x hx;simp at hx;subst hx;omega,by simp⟩ ok0 ok0 rfl x1
end
section
attribute [local irreducible] Bl CS CU CJ Bh Ak CV Du EN E5 EH Be BN CE Bz and' CG CO BC Ag Ar BF BG AY Aa AP AX CW Dv CX DT C9 BJ BD BA BB Au AQ Az Ac Aw Ah CY BL Bi BR BI CB CZ CP fits Cb CQ A8 AA AZ
theorem A3d(l:List UInt8)(i:Int)(hi:0<=i/\i<=255):∃ n:Nat,n<=255/\Y E0 (.call 12 [.sl .u8 l,.i i] [])=some (.ret (.i (n:Int)) []):=by
 by_cases h:i<(l.length:Int)
 ·obtain⟨x,hx,hg⟩:=Gp (l:=l) (i:=i) ⟨hi.1,h⟩
  refine⟨x.toNat,Nat.le_of_lt_succ x.toNat_lt,?_⟩
  refine tq ?_
  rw[hg]
  refine tq ?_
  rw[Oj]
 ·refine⟨i.toNat,by omega,?_⟩
  rw[Int.toNat_of_nonneg hi.1]
  refine tq ?_
  with_reducible rfl
theorem aF{ar:List (List UInt8)}{q R K:Int}(h:tkA ar q R K):Q5 ar q (Q3 R K false):=by
 obtain⟨h1,h2,h3,h4,R',O',-,h5⟩:=h
 exact⟨h1,by omega,by omega,by rw[MP];decide,h4,.inr ⟨_,by rw[MP];decide,h2,h5⟩⟩
theorem vz(q R K:Int)(O:Bool)(h1:Y E0 (.call 50 [.agg [.sl (.sl .u8) ar,.i 0,.i 0,.i 0,.b false],.i 0] [])=some (.ret (.tup [.sl .u8 (Q3 R K O),.i q,.i 0]) []))(h2:ar[(q%2).toNat]?=some (Gv q (Q3 R K O)))(hl:ar.length=4)(hq:1<=q/\q<=190)(hR:0<=R/\R<=190)(hK:0<=K/\K<=5)(wr cu to nx:Int)(of on:Bool)(sd0:List (List UInt8))(au0:List (List UInt8))(en0:List UInt8)(ac0:Int)(re0:Int)(rs0:Int)(ck0:Int)(od0:Bool)(su0:Int)(mc0:Int)(ix0:List (El AB))(l10:Int)(l20:Int)(l30:Int)(l40:Int)(l50:Int)(l60:Int)(ks0:List (El BP))(st0:Bool)(sp0:Bool)(rb0:List (List (List UInt8)))(ru0:Int)(vc0:Int)(sf0:Bool)(dr0:Int)(ss0:List (El sesT))(ob0:List (El objT))(rl0:List Int)(wl0:List Int):
  ∃ ar',tkA ar' (q+1) (R+1) K/\Y E0 (.call 16 [Gm ar wr cu to of sd0 au0 en0 ac0 re0 rs0 ck0 od0 [] su0 mc0 ix0 l10 l20 l30 l40 l50 l60 ks0 st0 sp0 rb0 ru0 vc0 sf0 dr0 ss0 ob0 rl0 wl0 on nx] [])=some (.ret (.tup [Gm ar' 1 0 0 false (Aq zen) [[],[],[],[]] (BK zen Bc [] 32) 2 (R+1) 0 0 false [] 0 0 [] K 5 100 0 0 1000 [] true false (BZ 2) 0 0 O 0 ED H8 [] [] true (q+1+1),.b true]) []):=by
 refine⟨_,⟨(rC _ _ _).trans hl,by omega,by omega,UI hl,R,O,by omega,?_⟩,?_⟩
 ·rw[show q+1-1=q from by omega,nxA,Yp,show(q+1+1)%2=q%2 from by omega,h2]
 ·rw[show q+1+1=q+2 from by omega]
  exact A86 ar q R K O h1 hl hq hR hK wr cu to nx of on sd0 au0 en0 ac0 re0 rs0 ck0 od0 su0 mc0 ix0 l10 l20 l30 l40 l50 l60 ks0 st0 sp0 rb0 ru0 vc0 sf0 dr0 ss0 ob0 rl0 wl0
theorem A8A(q R K:Int)(h:tkA ar q R K)(hq:q<=180)(hR:0<=R/\R<=180)(hK:0<=K/\K<5)(n:Nat)(wr cu to nx:Int)(of on:Bool)(sd0:List (List UInt8))(au0:List (List UInt8))(en0:List UInt8)(ac0:Int)(re0:Int)(rs0:Int)(ck0:Int)(od0:Bool)(su0:Int)(mc0:Int)(ix0:List (El AB))(l10:Int)(l20:Int)(l30:Int)(l40:Int)(l50:Int)(l60:Int)(ks0:List (El BP))(st0:Bool)(sp0:Bool)(rb0:List (List (List UInt8)))(ru0:Int)(vc0:Int)(sf0:Bool)(dr0:Int)(ss0:List (El sesT))(ob0:List (El objT))(rl0:List Int)(wl0:List Int):∃ old,Ah ar ((q+1)%2)=some old/\old.length<=60000 /\
  ∃ ar' q' R' K' F',tkA ar' q' R' K'/\(q'=q+1\/q'=q+2)/\(1<=R'/\R'<=R+1)/\(K'=K\/K'=K+1)/\Y E0 (.call 16 [Gm (BL ar ((q+1)%2) (JU n (Gv (q+1) (Q3 R (K+1) false)) old)) wr cu to of sd0 au0 en0 ac0 re0 rs0 ck0 od0 [] su0 mc0 ix0 l10 l20 l30 l40 l50 l60 ks0 st0 sp0 rb0 ru0 vc0 sf0 dr0 ss0 ob0 rl0 wl0 on nx] [])=some (.ret (.tup [Gm ar' 1 0 0 false (Aq zen) [[],[],[],[]] (BK zen Bc [] 32) 2 R' 0 0 false [] 0 0 [] K' 5 100 0 0 1000 [] true false (BZ 2) 0 0 F' 0 ED H8 [] [] true (q'+1),.b true]) []):=by
 obtain⟨h1,h2,h3,h4,R',O',h5,h6⟩:=h
 obtain⟨s,v,r2,f2,od2,e1,e2,e3,e4,e5⟩:=A82 (BK zen JP [0] 32) (BK zen JP [1] 32) (BK zen JP [2] 32) (BK zen Bc [] 32) (Eb zaa) (Eb zaa) (Eb zaa) (Eb zaa) (q:=q) (r:=R) (f:=K+1) (r':=R') (f':=K) (od:=false) (od':=O') n ⟨h2,h3⟩ zaa zaa zaa zaa
 refine⟨Gv (q-1) (Q3 R' K O'),by rw[KR,lget0,if_pos zaa];exact h6,by rw[Cm,MP];decide,?_⟩
 rw[show JU n (Gv (q+1) (Q3 R (K+1) false)) (Gv (q-1) (Q3 R' K O'))=s++n8 v++n4 ((Q3 r2 f2 od2).length:Int)++Q3 r2 f2 od2 from e5]
 obtain⟨ar1,har1⟩:∃ ar1,BL ar ((q+1)%2) (s++n8 v++n4 ((Q3 r2 f2 od2).length:Int)++Q3 r2 f2 od2)=ar1:=⟨_,rfl⟩
 have hl1:ar1.length=4:=by rw[<-har1,EU,List.length_set,h1]
 have hg1:ar1[((q+1)%2).toNat]?=some (s++n8 v++n4 ((Q3 r2 f2 od2).length:Int)++Q3 r2 f2 od2):=by rw[<-har1];exact UI h1
 have hg0:ar1[(q%2).toNat]?=some (Gv q (Q3 R K false)):=by
  rw[<-har1,show q%2=(q+1+1)%2 from by omega,Yp,show(q+1+1)%2=q%2 from by omega,h4]
 rw[har1]
 rcases vM ar1 q v (Q3 R K false) s (Q3 r2 f2 od2) 0 0 0 hl1 ⟨h2,by omega⟩ (by rw[MP];decide) hg0 hg1 e1 (by rw[MP];decide) e2 with hA|⟨hb,hB⟩
 ·obtain⟨ar',k1,k2⟩:=vz ar1 q R K false hA hg0 hl1 zaa zaa zaa wr cu to nx of on sd0 au0 en0 ac0 re0 rs0 ck0 od0 su0 mc0 ix0 l10 l20 l30 l40 l50 l60 ks0 st0 sp0 rb0 ru0 vc0 sf0 dr0 ss0 ob0 rl0 wl0
  exact⟨ar',q+1,R+1,K,false,k1,.inl rfl,by omega,.inl rfl,k2⟩
 ·obtain⟨ar',k1,k2⟩:=vz ar1 (q+1) r2 f2 od2 hB hb hl1 zaa zaa zaa wr cu to nx of on sd0 au0 en0 ac0 re0 rs0 ck0 od0 su0 mc0 ix0 l10 l20 l30 l40 l50 l60 ks0 st0 sp0 rb0 ru0 vc0 sf0 dr0 ss0 ob0 rl0 wl0
  rw[show q+1+1=q+2 from by omega] at k1 k2
  exact⟨ar',q+2,r2+1,f2,od2,k1,.inr rfl,by omega,by omega,k2⟩
theorem A8B:∃ ar,tkA ar 2 1 0/\Y E0 (.call 8 [.i 2] [])=some (.ret (.tup [Gm ar 1 0 0 false (Aq zen) [[],[],[],[]] (BK zen Bc [] 32) 2 1 0 0 false [] 0 0 [] 0 5 100 0 0 1000 [] true false (BZ 2) 0 0 true 0 ED H8 [] [] true 3,.b true]) []):=by
 have h0:=Qb 0 zac
 have hm:=qX zen zen_len (Q3 0 0 true) rfl h0
 have hr:=KO _ 1 (Q3 0 0 true) 0 0 0 (qY (Q3 0 0 true) (by rw[MP];decide))
 obtain⟨ar',k1,k2⟩:=vz _ 1 0 0 true hr (by rw[EU];rfl) (by rw[EU];rfl) zac zac zac 1 0 0 2 true false [] [] [] 0 0 0 0 false 0 0 [] 0 0 0 0 0 0 [] false false [] 0 0 false 0 [] [] [] []
 exact⟨ar',k1,X3 _ 1 ar' 1 3 (Aq zen) [[],[],[],[]] (BK zen Bc [] 32) 2 1 0 0 false 0 0 [] 0 5 100 0 0 1000 [] true false (BZ 2) 0 0 true 0 ED H8 [] [] hm k2⟩
theorem Yq(wr cu to a n:Int)(of:Bool):Y E0 (.call 11 [.agg [.sl (.sl .u8) ar,.i wr,.i cu,.i to,.b of],.i a,.i n] [])=some (.ret (.agg [.sl (.sl .u8) ar,.i wr,.i a,.i n,.b of]) []):=by
 refine tq ?_
 with_reducible rfl
theorem A1b(x:UInt8):BI (BI [] A) [DT (Dv x)]≠A:=by
 rw[Ap,Ap];intro h
 have:=congrArg List.length h
 simp at this
theorem wB(hA:A.length<=31)(x:UInt8):(BI (BI [] A) [DT (Dv x)]).length<=100:=by
 rw[Ap,Ap];simp;omega
theorem TC(cs tn A:List UInt8)(hc:cs.length<=16)(hA:A.length<=31):∀(k i:Nat),i+k=cs.length->∀(ar:List (List UInt8)) (q R K:Int) (F:Bool) (w:Int),tkA ar q R K->q<=2+2*(i:Int)->1<=R/\R<=1+(i:Int)->0<=K/\K<=5->K<=(i:Int)->0<=w/\w<=K->∃ ar' q' R' K' F' w',tkA ar' q' R' K'/\q'<=34/\(1<=R'/\R'<=17)/\(0<=K'/\K'<=5)/\K'<=(cs.length:Int)/\(0<=w'/\w'<=K') /\
  Y E0 (.loop 3 0 0 1 [(0,.sl .u8 cs),(1,.sl .u8 tn),(2,.sl .u8 A),(7,.pa 0 0),(9,.i w),(10,.i (i:Int))] [(0,some (.var [.sl (.sl .u8) ar,.i 1,.i 0,.i 0,.b false,.sl (.sl .u8) (Aq zen),.sl (.sl .u8) [[],[],[],[]],.sl .u8 (BK zen Bc [] 32),.i 2,.i R,.i 0,.i 0,.b false,.sl (.sl (.sl .u8)) [],.i 0,.i 0,.sl AB [],.i K,.i 5,.i 100,.i 0,.i 0,.i 1000,.sl BP [],.b true,.b false,.sl (.sl (.sl .u8)) (BZ 2),.i 0,.i 0,.b F,.i 0,.sl sesT ED,.sl objT H8,.sl .i64 [],.sl .i64 [],.b true,.i (q+1)]))])=some (.fin (.exit 0) 1 [(0,.sl .u8 cs),(2,.sl .u8 A),(7,.pa 0 0),(9,.i w')] [(0,some (.var [.sl (.sl .u8) ar',.i 1,.i 0,.i 0,.b false,.sl (.sl .u8) (Aq zen),.sl (.sl .u8) [[],[],[],[]],.sl .u8 (BK zen Bc [] 32),.i 2,.i R',.i 0,.i 0,.b false,.sl (.sl (.sl .u8)) [],.i 0,.i 0,.sl AB [],.i K',.i 5,.i 100,.i 0,.i 0,.i 1000,.sl BP [],.b true,.b false,.sl (.sl (.sl .u8)) (BZ 2),.i 0,.i 0,.b F',.i 0,.sl sesT ED,.sl objT H8,.sl .i64 [],.sl .i64 [],.b true,.i (q'+1)]))])
 | 0,i,hi=>by
  intro ar q R K F w h1 h2 h3 h4 h5 h6
  obtain rfl:i=cs.length:=zaa
  refine⟨ar,q,R,K,F,w,h1,by omega,by omega,h4,h5,h6,?_⟩
  rw[AU];conv=>lhs;whnf
  refine tq ?_
  with_reducible rfl
 | k+1,i,hi=>by
  intro ar q R K F w h1 h2 h3 h4 h5 h6
  obtain⟨x,hm,hg⟩:=Gp (l:=cs) (i:=(i:Int)) zaa
  obtain⟨U,S,B1,B2,hU,hS,c1⟩:=A6h A [DT (Bh (Dv x) 2)] zaa zan R K zaa h4 F ar (q+1)
  have hv:=wB A hA x
  have hvA:=A1b A x
  by_cases hcut:Bh (CJ (Dv x) 2) 3=0
  ·obtain⟨n,hn,cN⟩:=A3d tn (i:Int) zaa
   by_cases hK:K=5
   ·subst hK
    have c2:=A5W A [DT (Bh (Dv x) 2)] U S (BI (BI [] A) [DT (Dv x)]) hU zaa hv R zaa F ar 2 (n:Int) (q+1)
    have hr:=KO ar q (Q3 R 5 false) 0 0 0 (aF h1)
    obtain⟨ar1,k1,c3⟩:=vz ar q R 5 false hr h1.2.2.2.1 h1.1 ⟨by have:=h1.2.1;omega,by omega⟩ zaa h4 1 2 (n:Int) (q+1) false true (Aq zen) [[],[],[],[]] (BK zen Bc [] 32) 2 R 0 0 false 0 0 [] 5 5 100 0 0 1000 [] true false (BZ 2) 0 0 F 0 ED (XC U A S [DT (Bh (Dv x) 2)]) [] []
    obtain⟨ar',q',R',K',F',w',j1,j2,j3,j4,j5,j6,ih⟩:=TC cs tn A hc hA k (i+1) zaa ar1 (q+1) (R+1) 5 false w k1 zaa zaa h4 zaa h6
    refine⟨ar',q',R',K',F',w',j1,j2,j3,j4,j5,j6,?_⟩
    rw[show((i+1:Nat):Int)=(i:Int)+1 from by omega] at ih
    rw[AU];conv=>lhs;whnf
    refine to ?_
    rw[hg]
    refine tq ?_
    rw[JG ..]
    refine tq ?_
    rw[c1]
    refine tp ?_
    rw[cN]
    refine tq ?_
    rw[show(1:Int)+1=2 from rfl,Yq]
    refine tq ?_
    rw[XA ..]
    refine tq ?_
    rw[Py ..]
    refine tq ?_
    rw[c2]
    refine tq ?_
    rw[c3]
    refine tq ?_
    exact ih
   ·obtain⟨old,g1,g2,ar1,q1,R1,K1,F1,k1,k2,k3,k4,c3⟩:=A8A ar q R K h1 zaa zaa zaa n 2 2 (n:Int) (q+1) true false [] [] [] 0 0 0 0 false 0 0 [] 0 0 0 0 0 0 [] false false [] 0 0 false 0 [] [] [] []
    have c2:=A88 A [DT (Bh (Dv x) 2)] U S (BI (BI [] A) [DT (Dv x)]) hU zaa hv hvA R K zaa zaa F ar h1.1 (q+1) ⟨by have:=h1.2.1;omega,by omega⟩ n hn old g1 g2
    obtain⟨ar',q',R',K',F',w',j1,j2,j3,j4,j5,j6,ih⟩:=TC cs tn A hc hA k (i+1) zaa ar1 q1 R1 K1 F1 w k1 zaa zaa zaa zaa zaa
    refine⟨ar',q',R',K',F',w',j1,j2,j3,j4,j5,j6,?_⟩
    rw[show((i+1:Nat):Int)=(i:Int)+1 from by omega] at ih
    rw[AU];conv=>lhs;whnf
    refine to ?_
    rw[hg]
    refine tq ?_
    rw[JG ..]
    refine tq ?_
    rw[c1]
    refine tp ?_
    rw[cN]
    refine tq ?_
    rw[show(1:Int)+1=2 from rfl,Yq]
    refine tq ?_
    rw[XA ..]
    refine tq ?_
    rw[Py ..]
    refine tq ?_
    rw[c2]
    refine tq ?_
    rw[c3]
    refine tq ?_
    exact ih
  ·by_cases hK:K=5
   ·subst hK
    have c2:=A5W A [DT (Bh (Dv x) 2)] U S (BI (BI [] A) [DT (Dv x)]) hU zaa hv R zaa F ar 0 0 (q+1)
    have hr:=KO ar q (Q3 R 5 false) 0 0 0 (aF h1)
    obtain⟨ar1,k1,c3⟩:=vz ar q R 5 false hr h1.2.2.2.1 h1.1 ⟨by have:=h1.2.1;omega,by omega⟩ zaa h4 1 0 0 (q+1) false true (Aq zen) [[],[],[],[]] (BK zen Bc [] 32) 2 R 0 0 false 0 0 [] 5 5 100 0 0 1000 [] true false (BZ 2) 0 0 F 0 ED (XC U A S [DT (Bh (Dv x) 2)]) [] []
    obtain⟨ar',q',R',K',F',w',j1,j2,j3,j4,j5,j6,ih⟩:=TC cs tn A hc hA k (i+1) zaa ar1 (q+1) (R+1) 5 false w k1 zaa zaa h4 zaa h6
    refine⟨ar',q',R',K',F',w',j1,j2,j3,j4,j5,j6,?_⟩
    rw[show((i+1:Nat):Int)=(i:Int)+1 from by omega] at ih
    rw[AU];conv=>lhs;whnf
    refine to ?_
    rw[hg]
    refine tq ?_
    rw[JG ..]
    refine tq ?_
    rw[c1]
    refine tq ?_
    rw[XA ..]
    refine tq ?_
    rw[Py ..]
    refine tq ?_
    rw[c2]
    refine tq ?_
    rw[c3]
    refine tq ?_
    exact ih
   ·have c2:=A87 A [DT (Bh (Dv x) 2)] U S (BI (BI [] A) [DT (Dv x)]) hU zaa hv hvA R K zaa zaa F ar h1.1 (q+1) ⟨by have:=h1.2.1;omega,by omega⟩
    have ha:Q5 (nxA ar (q+1) (Q3 R (K+1) false)) (q+1) (Q3 R (K+1) false):=YR (aF h1) zaa (by rw[MP];decide)
    have hr:=KO _ (q+1) (Q3 R (K+1) false) 0 0 0 ha
    obtain⟨ar1,k1,c3⟩:=vz _ (q+1) R (K+1) false hr (UI h1.1) ((rC _ _ _).trans h1.1) ⟨by have:=h1.2.1;omega,by omega⟩ zaa zaa 2 0 0 (q+1+1) false true (Aq zen) [[],[],[],[]] (BK zen Bc [] 32) 2 R 0 0 false 0 0 [] (K+1) 5 100 0 0 1000 [] true false (BZ 2) 0 0 F 0 ED (XC U A S [DT (Bh (Dv x) 2)]) [] []
    obtain⟨ar',q',R',K',F',w',j1,j2,j3,j4,j5,j6,ih⟩:=TC cs tn A hc hA k (i+1) zaa ar1 (q+1+1) (R+1) (K+1) false (w+1) k1 zaa zaa zaa zaa zaa
    refine⟨ar',q',R',K',F',w',j1,j2,j3,j4,j5,j6,?_⟩
    rw[show((i+1:Nat):Int)=(i:Int)+1 from by omega] at ih
    rw[AU];conv=>lhs;whnf
    refine to ?_
    rw[hg]
    refine tq ?_
    rw[JG ..]
    refine tq ?_
    rw[c1]
    refine tq ?_
    rw[XA ..]
    refine tq ?_
    rw[Py ..]
    refine tq ?_
    rw[c2]
    refine tq ?_
    rw[c3]
    refine tq ?_
    exact ih
theorem V5(cs tn A:List UInt8)(hc:cs.length<=16)(hA:A.length<=31):Y E0 (.call 3 [.sl .u8 cs,.sl .u8 tn,.sl .u8 A] [])=some (.ret (.b true) []):=by
 obtain⟨ar,h1,hf⟩:=A8B
 obtain⟨ar',q',R,K,F,w,j1,j2,j3,j4,j5,j6,hl⟩:=TC cs tn A hc hA cs.length 0 zaa ar 2 1 0 true 0 h1 zaa zaa zaa zaa zaa
 rw[show((0:Nat):Int)=0 from rfl,show(2:Int)+1=3 from rfl] at hl
 obtain⟨U,S,B1,B2,hU,hS,c1⟩:=A6h A [] zaa zan R K zaa j4 F ar' (q'+1)
 by_cases hK:K=5
 ·subst hK
  have c2:=A5W A [] U S A hU zaa zaa R zaa F ar' 0 0 (q'+1)
  refine tq ?_
  rw[Pz]
  refine tq ?_
  rw[hf]
  refine tq ?_
  rw[hl]
  refine tq ?_
  rw[JG ..]
  refine tq ?_
  rw[c1]
  refine tq ?_
  rw[XA ..]
  refine tq ?_
  rw[Py ..]
  refine tq ?_
  rw[c2]
  exact tq rfl
 ·have c2:=A89 A [] U S hU zaa zan R K zaa zaa F ar' 0 0 (q'+1)
  refine tq ?_
  rw[Pz]
  refine tq ?_
  rw[hf]
  refine tq ?_
  rw[hl]
  refine tq ?_
  rw[JG ..]
  refine tq ?_
  rw[c1]
  refine tq ?_
  rw[XA ..]
  refine tq ?_
  rw[Py ..]
  refine tq ?_
  rw[c2]
  conv=>lhs;whnf
  try dsimp -iota -beta -eta -zeta only
  rw[drw zai];conv=>lhs;whnf
  rw[AU]
  conv=>lhs;whnf
  rw[JK zaa]
  conv=>lhs;whnf
  rw[Ep zaa]
  conv=>lhs;whnf
  (congr 3;simp only[Hq,JA,Io,JB,DJ,GZ,AC];first|rfl|(rw[decide_eq_decide];omega)|(simp;omega))
theorem XN(cs tn A:List UInt8):Y E0 (.call 3 [.sl .u8 cs,.sl .u8 tn,.sl .u8 A] [])=some (.ret (.b true) []):=by
 by_cases hl:cs.length<=16/\A.length<=31
 ·exact V5 cs tn A hl.1 hl.2
 ·by_cases h1:cs.length<=16
  ·have h2:31<A.length:=zaa
   refine tq ?_
   rw[Pz]
   exact tq rfl
  ·have h2:16<cs.length:=zaa
   refine tq ?_
   rw[Pz]
   exact tq rfl
end
end Go.Proofs.YtanagnimhaemgaaGreatDoor
