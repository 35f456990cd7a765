/-
  Own texts, laid together for this claim: contracts of functions of the program and its references, used by the statements of this seat.
-/
import Derived.Test.YtnhgnfdbdflhcaaGreatDoorMsg
set_option linter.all false
set_option maxHeartbeats 40000000
set_option maxRecDepth 100000
namespace Go.Ax
def A4t(a:Att):Att:={key:=CP a.key,nonce:=a.nonce.take 128,digest:=CP a.digest,resets:=a.resets%4611686018427387904,restarts:=a.restarts%4611686018427387904,clock:=a.clock%4611686018427387904,safe:=a.safe,updates:=a.updates%4611686018427387904,s0:=a.s0%65536,s1:=a.s1%65536}
def A6o(a:Att):Bool:=decide ((a.key.length:Int)<=60)&&(decide ((a.nonce.length:Int)<=200)&&decide ((a.digest.length:Int)<=60))
theorem A1q(b:List UInt8):(NK b).1.key.length<=b.length/\(NK b).1.nonce.length<=b.length/\(NK b).1.digest.length<=b.length:=by
 unfold NK
 dsimp only
 split
 ·simp[OD]
 split
 ·simp[OD]
 split
 ·simp[OD]
 split
 ·simp[OD]
 exact⟨J8,J8,WW⟩
end Go.Ax
namespace Go.Ax
open Go.Eng
def UX(c kind r:Int)(R:Int×Bool)(D:Att×Int)(nm:List UInt8):Att×Int×Int :=
 if c≠0 then(OD,0,c) else if kind≠2 then(OD,0,19) else if r=0 then(OD,0,20) else if R.2=false then(OD,0,17) else if D.2≠0 then(OD,0,D.2) else if D.1.key≠nm then(OD,0,16) else(D.1,R.1,0)
def fA(k:Pub)(b s:List UInt8):Att×Int×Int:=UX (Bv k) k.kind (bits .and .i64 k.attr 4) (Gf k.unique b s) (NK b) (nameB k)
theorem A3E(kind attr height:Int)(policy unique b s:List UInt8):fA ⟨kind,attr,height,policy,unique⟩ b s=UX (Bv ⟨kind,attr,height,policy,unique⟩) kind (bits .and .i64 attr 4) (Gf unique b s) (NK b) (nameB ⟨kind,attr,height,policy,unique⟩):=rfl
theorem A1r(p:Pub):(nameB p).length=32:=A7 _
def RZ(a:UInt8):Int:=bits .or .i64 (bits .or .i64 ((a.toNat%4:Nat):Int) 1) 4
theorem four{a:Int}(h:0<=a/\a<=3):a=0\/a=1\/a=2\/a=3:=zaa
theorem lQ(a:UInt8):0<=RZ a/\RZ a<=7/\bits .and .i64 (RZ a) 4≠0/\bits .and .i64 (RZ a) 1≠0:=by
 unfold RZ
 rcases four (show 0<=((a.toNat%4:Nat):Int)/\((a.toNat%4:Nat):Int)<=3 by omega) with h|h|h|h<;>rw[h]<;>decide
def Z9(seed:List UInt8)(t:UInt8)(o:List UInt8):Pub:=⟨2,RZ t,0,CP o,Ed seed 0⟩
theorem uh{seed o:List UInt8}{t:UInt8}:Bv (Z9 seed t o)=0:=by
 obtain⟨h1,h2,h3,h4⟩:=lQ t
 unfold Bv
 simp only[Z9,U7 (seed:=seed) (h:=0) zaa,AQ];rw[if_neg zaa,if_neg,if_neg]
 ·rintro(q|q|q|q|q)
  ·omega
  ·omega
  ·exact q.2 rfl
  ·omega
  ·exact q zal
 ·rintro(q|q|q|q)
  ·omega
  ·omega
  ·exact q.2 rfl
  ·exact h4 q.1
theorem A4u{seed m s o:List UInt8}{leaf:Int}{t:UInt8}{A:Att}(hv:Gf (Ed seed 0) m s=(leaf,true))(hd:NK m=(A,0)):fA (Z9 seed t o) m s=if A.key=nameB (Z9 seed t o) then(A,leaf,0) else(OD,0,16):=by
 have h1:fA (Z9 seed t o) m s=UX (Bv (Z9 seed t o)) 2 (bits .and .i64 (RZ t) 4) (Gf (Ed seed 0) m s) (NK m) (nameB (Z9 seed t o)):=rfl
 rw[h1,uh,hv,hd,UX,if_neg zal,if_neg zal,if_neg (lQ t).2.2.1,if_neg zao,if_neg zao]
 by_cases h:A.key=nameB (Z9 seed t o)
 ·rw[if_neg zaT,if_pos h]
 ·rw[if_pos h,if_neg h]
end Go.Ax
namespace Go.Proofs.YtnhgnfdbdflhcaaGreatDoor
open Go Go.Ax Go.Eng
variable {a k:Int}(b0:List (List UInt8))(s:MS)(n:Int)(b1:List (List UInt8))(u s0 s1:Int)
section
attribute [local irreducible] Cj Dt D9 DT DK BH Du Ey Fh FD Et D7 CV Df DX and' Dk DU CG Ba Bl CJ CS BK BM BB BG Dv G7 Dw EM Dl Bh CO Bz C9 Bo BD Bi BO Be BZ Dx Bf DL Bd BI D6 Dy fits Dz Dn AZ Ap BL
attribute [local irreducible] E5 CP Bq nameB ES Em Ar FK En FH Eu Fe CE IU Ej Gf GV Ee Gp FC JL JZ Ed
theorem A1n{s:MS}(hi:Kp a k s)(hk:k<=900):Kp a (k+1) {s with re:=s.re+1,rs:=0,rb:=N8 s.ac,ru:=0,st:=true,sp:=false,vc:=s.ck,sf:=s.od,od:=false,sb:=[],su:=0,dr:=0,ss:=List.replicate 3 ses0,ob:=List.replicate 3 obj0,rl:=[],wl:=[]}:=by
 have hn:=Ya (a:=a) (by have:=hi.ac;omega)
 have h0:0<=k+1:=zaw
 have hr:0<=s.re+1/\s.re+1<=k+1:=by have:=hi.re;omega
 exact {hi.up (k':=k+1) zaw with re:=hr,rs:=⟨Int.le_refl _,h0⟩,rb:=(by rw[hi.ac.1];exact hn.1),st:=fun _ h=>(by show N8 s.ac≠[];rw[hi.ac.1];exact hn.2 h),ru:=⟨Int.le_refl _,h0⟩,vc:=hi.ck,sb:=OU a,su:=⟨Int.le_refl _,h0⟩,dr:=⟨Int.le_refl _,h0⟩,ssl:=ND.1,ssm:=ND.2,obl:=NE.1,obm:=NE.2,rl:=h0,wl:=h0}
theorem lM(hi:Kp a k s)(hk:k<=880):Ah E0 (.call 91 [av s] []) fun r=>∃ t:MS,(Kp a (k+1) t/\t.st=true)/\r=some (.ret (av t) []):=by
 have hkk:=hi.kk
 have hre:=hi.re
 have hac:=hi.ac
 refine CU fun P hP=>tw ?_
 rcases bo (s.st) with hc0|hc0
 ·rw[hc0];refine tw ?_;refine hP _ ⟨{s with st:=true},?_,rfl⟩;exact⟨(Kp.st_ hi zat).up zaa,rfl⟩
 rw[hc0];refine tw ?_;rw[ML ..];refine tw ?_;rw[Px _ _ _ _ _ _ _ _ _ _ _ _ _ _ _ _ _ _ _ _ _ _ _ _ _ _ _ _ _ _ ⟨rfl,rfl⟩ zaa zaa];refine tw ?_;refine hP _ ⟨{s with re:=s.re+1,rs:=0,od:=false,sb:=[],su:=0,st:=true,sp:=false,rb:=N8 s.ac,ru:=0,vc:=s.ck,sf:=s.od,dr:=0,ss:=List.replicate 3 ses0,ob:=List.replicate 3 obj0,rl:=[],wl:=[]},?_,rfl⟩;exact⟨A1n hi zaa,rfl⟩
theorem A1o(c n m:Int)(b:List UInt8)(hi:Kp a k s)(hk:k<=870)(hc:0<=c/\c<=255)(hn:0<=n/\n<=255)(hm:0<=m/\m<=255)(hb:b.length<=1000):Ah E0 (.call 90 [av s,.i c,.i n,.i m,.sl .u8 b] []) fun r=>∃ t:MS,Kp a (k+3) t/\r=some (.ret (av t) []):=by
 have hkk:=hi.kk
 refine CU fun P hP=>tw ?_
 obtain⟨t0,⟨h0_1,h0_2⟩,yy0⟩:=lM s hi A8;refine Am yy0 ?_
 rcases AL (c%16) 15 with hc1|hc1
 ·refine tw ?_
  obtain(⟨t2,⟨h2_1,h2_2⟩,yy2⟩|⟨t2_3,e2_4,h2_5,yy2⟩):=oG t0 (1+n) h0_1 A8
  ·refine Am yy2 ?_;exact hP _ ⟨t2,clo,rfl⟩
  refine Am yy2 ?_;exact hP _ ⟨t0,clo,rfl⟩
 rw[AA zaa]
 conv=>arg 1;whnf
 try dsimp -iota -beta -eta -zeta only
 rw[AA zaa]
 conv=>arg 1;whnf
 try dsimp -iota -beta -eta -zeta only
 rw[AA zaa]
 conv=>arg 1;whnf
 rw[DY zah]
 conv=>arg 1;whnf
 try dsimp -iota -beta -eta -zeta only
 rw[Ei zaa];rw[GR zaa];rw[Aw zaa];rw[GR zaa];rw[Aw zaa];rw[AU];obtain⟨c3,hs3_1,az3_2,is3_3,bs3_4,h3_5,yy3⟩:=A3B t0 (c/16*7+c) (7*n+m) m (BI [EM n] b) h0_1 A8;refine Am yy3 ?_;obtain⟨t4,e4_1,is'4_2,bs'4_3,ns'4_4,h4_5,yy4⟩:=qX t0 (m%5) c3 hs3_1 az3_2 is3_3 bs3_4 h0_1 A8 A8;refine Am yy4 ?_;exact hP _ ⟨t4,clo,rfl⟩
theorem qY(x:UInt8):0<=G7 x/\G7 x<=255:=by
 have:=x.toNat_lt
 rw[qp,u8i0]
 omega
theorem Yo(cs b:List UInt8){a:Int}(hb:b.length<=1000):∀(q:Nat) (i k:Int) (s:MS),0<=i->i+3*q=30->Kp a k s->k+3*q<=150->Ah E0 (.loop 28 0 0 2 [(1,.sl .u8 cs),(2,.sl .u8 b),(3,.i 10),(4,.pa 0 0),(8,.pa 1 0),(9,.i i)] [(0,some (.var (cv s))),(1,some (.var [.nil,.nil,.nil,.i 0,.i 0,.i 0,.i 0,.b false,.nil,.i 0,.i 0,.nil,.i 0,.i 0,.i 0,.i 0,.i 0,.i 0,.nil,.b false,.b false,.nil,.i 0,.i 0,.b false,.i 0,.nil,.nil,.nil,.nil]))]) fun r=>∃ t:MS,Kp a 190 t/\r=some (.fin (.exit 0) 2 [(4,.pa 0 0),(8,.pa 1 0)] [(0,some (.var (cv t))),(1,some (.var [.nil,.nil,.nil,.i 0,.i 0,.i 0,.i 0,.b false,.nil,.i 0,.i 0,.nil,.i 0,.i 0,.i 0,.i 0,.i 0,.i 0,.nil,.b false,.b false,.nil,.i 0,.i 0,.b false,.i 0,.nil,.nil,.nil,.nil]))])
 | 0,i,k,s,h0,hj,hi,hk=>by
  refine CU fun P hP=>?_
  refine tw ?_
  rcases AY (i+2) (↑cs.length) with hc0|hc0
  ·refine tw ?_;exact hP _ ⟨s,clo,rfl⟩
  refine tw ?_;exact hP _ ⟨s,clo,rfl⟩
 | q+1,i,k,s,h0,hj,hi,hk=>by
  have hkk:=hi.kk
  have ih:=fun s (h:Kp a (k+3) s)=>Yo cs b hb q (i+3) (k+3) s zaa zaa h zaa
  refine CU fun P hP=>?_
  refine tw ?_
  rcases AY (i+2) (↑cs.length) with hc0|hc0
  ·refine tw ?_;obtain⟨x1,m1,g1⟩:=EL (l:=cs) (i:=i) zaa;rw[g1];refine tw ?_;obtain⟨x2,m2,g2⟩:=EL (l:=cs) (i:=i+1) zaa;rw[g2];refine tw ?_;obtain⟨x3,m3,g3⟩:=EL (l:=cs) (i:=i+2) zaa;rw[g3];refine tw ?_;obtain⟨t4,h4_1,yy4⟩:=A1o s (G7 x1) (G7 x2) (G7 x3) b hi A8 (by(exact qY _)) (by(exact qY _)) (by(exact qY _)) A8;refine Am yy4 ?_;exact hP _ (ih _ zat)
  refine tw ?_;exact hP _ ⟨s,clo,rfl⟩
theorem A1p(cs b:List UInt8)(hi:Kp a k s)(hk:k<=100)(hb:b.length<=1000):Ah E0 (.call 28 [av s,.sl .u8 cs,.sl .u8 b,.i 10] []) fun r=>∃ t:MS,(Kp a 200 t/\t.st=true)/\r=some (.ret (av t) []):=by
 refine CU fun P hP=>tw ?_
 obtain⟨t0,h0,yy0⟩:=Yo cs b hb 10 0 k s zaa zaa hi zaa;rw[yy0];refine tw ?_;obtain⟨t0,⟨h0_1,h0_2⟩,yy0⟩:=lM t0 h0 A8;refine Am yy0 ?_;exact hP _ ⟨t0,clo,rfl⟩
theorem xy:Kp (n%4) 1 ⟨OO (CP [UInt8.ofNat 7]),[[],[],[],[]],E5 (CP [UInt8.ofNat 7]) jL [] 32,n%4,0+1,0,0,false,[],0,0,[],0,5,100,0,0,1000,[],true,false,N8 (n%4),0,0,true,0,List.replicate 3 ses0,List.replicate 3 obj0,[],[]⟩:=by
 have hn:=Ya (a:=n%4) zaa
 have hs:∀ x∈OO (CP [UInt8.ofNat 7]),x.length=32:=by
  intro l hl
  simp only[OO,List.mem_cons,List.not_mem_nil,or_false] at hl
  rcases hl with rfl|rfl|rfl<;>(rw[Fq zaa];rfl)
 exact {sdl:=rfl,sdm:=hs,aul:=rfl,aum:=zao,en:=(by show(E5 (CP [UInt8.ofNat 7]) jL [] 32).length=32;rw[Fq zaa];rfl),ac:=⟨rfl,by omega⟩,kk:=(show(0:Int)<=1/\(1:Int)<=1000 by decide),re:=(show(0:Int)<=0+1/\(0+1:Int)<=1 by decide),rs:=(show(0:Int)<=0/\(0:Int)<=1 by decide),ck:=(show(0:Int)<=0/\(0:Int)<=1099511627776 by decide),sb:=OU _,su:=(show(0:Int)<=0/\(0:Int)<=1 by decide),ixl:=zao,ixm:=zao,lk:=(show NQ 0 5 100 0 0 1000 from by unfold NQ;decide),ksl:=zao,ksm:=zao,rb:=hn.1,st:=fun _ h=>hn.2 h,ru:=(show(0:Int)<=0/\(0:Int)<=1 by decide),vc:=(show(0:Int)<=0/\(0:Int)<=1099511627776 by decide),dr:=(show(0:Int)<=0/\(0:Int)<=1 by decide),ssl:=ND.1,ssm:=ND.2,obl:=NE.1,obm:=NE.2,rl:=zao,wl:=zao}
theorem y5(cs b:List UInt8)(hb:b.length<=1000):Ah E0 (.call 7 [.i n,.sl .u8 cs,.sl .u8 b] []) fun r=>∃ t:MS,(Kp (n%4) 200 t/\t.st=true)/\r=some (.ret (av t) []):=by
 have e3:BH .and n 3=n%4:=JR 2 zal n
 refine CU fun P hP=>tw ?_
 rw[Ig _]
 conv=>arg 1;whnf
 try dsimp -iota -beta -eta -zeta only
 rw[e3];refine tw ?_;rw[Zz _ _ (AQ _) zaa];refine tw ?_;rw[ML ..];refine tw ?_;rw[Px _ _ _ _ _ _ _ _ _ _ _ _ _ _ _ _ _ _ _ _ _ _ _ _ _ _ _ _ _ _ ⟨rfl,rfl⟩ zaa zaa];refine tw ?_;obtain⟨t0,⟨h0,h0'⟩,yy0⟩:=A1p _ cs b (xy n) zal hb;rw[yy0];refine tw ?_;exact hP _ ⟨t0,clo,rfl⟩
end
section
attribute [local irreducible] Cj Dt D9 DT DK BH Du Ey Fh FD Et D7 CV Df DX and' Dk DU CG Ba Bl CJ CS BK BM BB BG Dv G7 Dw EM Dl Bh CO Bz C9 Bo BD Bi BO Be BZ Dx Bf DL Bd BI D6 Dy fits Dz Dn AZ Ap BL
attribute [local irreducible] E5 CP Bq nameB ES Em Ar FK En FH Eu Fe CE IU Ej Gf GV Ee Gp FC JL JZ Ed
theorem uf:BH .or 0 (D7 1 (Bh 0).toNat)=1/\BH .or 0 (D7 1 (Bh (0+1)).toNat)=2/\BH .or 1 (D7 1 (Bh (0+1)).toNat)=3:=by
 rw[P6,aW,FX]
 decide +kernel
def qZ(b0 b1:List (List UInt8)):Int:=(if b0.length=16 then 1 else 0)+(if b1.length=16 then 2 else 0)
theorem lN(h0:b0.length=0\/b0.length=16)(h1:b1.length=0\/b1.length=16):Y E0 (.call 163 [.agg [.sl (.sl (.sl .u8)) [b0,b1],.i u]] [])=some (.ret (.i (qZ b0 b1)) []):=by
 have hg1:BZ [b0,b1] (0+1)=some b1:=lg1 _ _ _
 have hq:Y E0 (.loop 163 0 0 1 [(1,.pa 0 0),(3,.i 0),(7,.i (Be [b0,b1])),(8,.i 0)] [(0,some (.var [.sl (.sl (.sl .u8)) [b0,b1],.i u]))])=some (.fin (.exit 0) 0 [(3,.i (qZ b0 b1))] []):=by
  unfold qZ
  rcases h0 with h0|h0<;>rcases h1 with h1|h1
  ·rw[if_neg zaa,if_neg zaa];refine tq ?_;refine tq ?_;rw[hg1];refine tq ?_;refine tq ?_
   rfl
  ·rw[if_neg zaa,if_pos h1];refine tq ?_;refine tq ?_;rw[hg1];refine tq ?_;refine tq ?_
   (rw[uf.2.1];rfl)
  ·rw[if_pos h0,if_neg zaa];refine tq ?_;refine tq ?_;rw[hg1];refine tq ?_;refine tq ?_
   (rw[uf.1];rfl)
  ·rw[if_pos h0,if_pos h1];refine tq ?_;refine tq ?_;rw[hg1];refine tq ?_;refine tq ?_
   (rw[uf.1,uf.2.2];rfl)
 refine tq ?_;rw[hq];exact tq rfl
theorem eu:(∀ v:Int,v=0\/v=2->BH .and (CV v (Bh 0).toNat) 1=0)/\(∀ v:Int,v=1\/v=3->BH .and (CV v (Bh 0).toNat) 1=1)/\(∀ v:Int,v=0\/v=1->BH .and (CV v (Bh 1).toNat) 1=0)/\(∀ v:Int,v=2\/v=3->BH .and (CV v (Bh 1).toNat) 1=1):=by
 rw[P6,aX,FX]
 refine⟨?_,?_,?_,?_⟩<;>(rintro v (rfl|rfl)<;>decide +kernel)
theorem A3C(h0:b0.length=0\/b0.length=16)(h1:b1.length=0\/b1.length=16):Y E0 (.call 103 [.agg [.sl (.sl (.sl .u8)) [b0,b1],.i u],.i 0] [])=some (.ret (.b (decide (0<b0.length))) []):=by
 have hb:BH .and (CV (qZ b0 b1) (Bh 0).toNat) 1=if 0<b0.length then 1 else 0:=by
  unfold qZ
  rcases h0 with h0|h0
  ·rw[if_neg (show ¬b0.length=16 by omega),if_neg (show ¬0<b0.length by omega)]
   exact eu.1 _ (by split<;>omega)
  ·rw[if_pos h0,if_pos (show 0<b0.length by omega)]
   exact eu.2.1 _ (by split<;>omega)
 refine tq ?_;rw[lN _ _ _ h0 h1];refine tq ?_;rw[hb]
 (rw[Es];by_cases h:0<b0.length<;>simp[h])
theorem ug(h0:b0.length=0\/b0.length=16)(h1:b1.length=0\/b1.length=16):Y E0 (.call 103 [.agg [.sl (.sl (.sl .u8)) [b0,b1],.i u],.i 1] [])=some (.ret (.b (decide (0<b1.length))) []):=by
 have hb:BH .and (CV (qZ b0 b1) (Bh 1).toNat) 1=if 0<b1.length then 1 else 0:=by
  unfold qZ
  rcases h1 with h1|h1
  ·rw[if_neg (show ¬b1.length=16 by omega),if_neg (show ¬0<b1.length by omega)]
   exact eu.2.2.1 _ (by split<;>omega)
  ·rw[if_pos h1,if_pos (show 0<b1.length by omega)]
   exact eu.2.2.2 _ (by split<;>omega)
 refine tq ?_;rw[lN _ _ _ h0 h1];refine tq ?_;rw[hb]
 (rw[Es];by_cases h:0<b1.length<;>simp[h])
theorem qc:Ah E0 (.loop 46 0 0 3 [(2,.pa 0 0),(3,.pa 1 0),(6,.nil),(7,.nm 2),(13,AV.agg [AV.i s0,AV.i s1]),(14,AV.i 0)] [(0,some (Rs.var [AV.sl Ty.u8.sl.sl [b0,b1],AV.i u])),(1,some (Rs.var [AV.i s0,AV.i s1])),(2,some (Rs.row 5 Ty.u8 []))]) fun r=>(∃ x:AV,(¬(0<=s0/\s0<=65535/\0<=s1/\s1<=65535))/\r=some (.fin .ret 3 [(2,.pa 0 0),(3,.pa 1 0),(4,.nil),(5,.i 1),(6,x),(7,.nm 2)] [(0,some (Rs.var [AV.sl Ty.u8.sl.sl [b0,b1],AV.i u])),(1,some (Rs.var [AV.i s0,AV.i s1])),(2,some (Rs.row 5 Ty.u8 []))]))\/((0<=s0/\s0<=65535/\0<=s1/\s1<=65535)/\r=some (.fin (.exit 0) 3 [(2,AV.pa 0 0),(3,AV.pa 1 0),(6,AV.sl Ty.u8 (CE (CE [] 2 s0) 2 s1)),(7,AV.nm 2)] [(0,some (Rs.var [AV.sl Ty.u8.sl.sl [b0,b1],AV.i u])),(1,some (Rs.var [AV.i s0,AV.i s1])),(2,some (Rs.row 5 Ty.u8 []))])):=by
 refine CU fun P hP=>?_
 refine tw ?_
 rcases AY s0 0 with hc0|hc0
 ·refine tw ?_;exact hP _ (Or.inl ⟨AV.nil,A8,rfl⟩)
 refine tw ?_
 rcases AY 65535 s0 with hc1|hc1
 ·refine tw ?_;exact hP _ (Or.inl ⟨AV.nil,A8,rfl⟩)
 refine tw ?_;rw[Ho _ _ _ A8];refine tw ?_;refine tw ?_
 rcases AY s1 0 with hc2|hc2
 ·refine tw ?_;exact hP _ (Or.inl ⟨AV.sl Ty.u8 (CE [] 2 s0),A8,rfl⟩)
 refine tw ?_
 rcases AY 65535 s1 with hc3|hc3
 ·refine tw ?_;exact hP _ (Or.inl ⟨AV.sl Ty.u8 (CE [] 2 s0),A8,rfl⟩)
 refine tw ?_;rw[Ho _ _ _ A8];refine tw ?_;refine tw ?_;exact hP _ (Or.inr ⟨A8,rfl⟩)
theorem VW(b0 b1 b:List (List UInt8))(u a s s0 s1:Int)(hd acc:List UInt8)(ha:acc.length<=20000)(hgb:BZ [b0,b1] a=some b)(h:s=0\/b.length=16)(hm:∀ x∈b,x.length<=1000):∀(n j:Nat),j+n=16->Y E0 (.loop 46 2 0 2 [(2,.pa 0 0),(6,.sl .u8 hd),(7,.nm 1),(10,.i a),(11,.i s),(27,.agg [.i s0,.i s1]),(28,.i a),(40,.i (j:Int))] [(0,some (.var [.sl (.sl (.sl .u8)) [b0,b1],.i u])),(1,some (.row 5 .u8 (acc++Ns s b j)))])=some (.fin (.exit 4) 2 [(2,.pa 0 0),(6,.sl .u8 hd),(7,.nm 1),(27,.agg [.i s0,.i s1]),(28,.i a)] [(0,some (.var [.sl (.sl (.sl .u8)) [b0,b1],.i u])),(1,some (.row 5 .u8 (acc++Nu s b)))])
 | 0,j,hj=>by
  obtain rfl:j=16:=zaa
  refine tq ?_
  rfl
 | n+1,j,hj=>by
  have ih:=VW b0 b1 b u a s s0 s1 hd acc ha hgb h hm n (j+1) zaa
  rw[show((j+1:Nat):Int)=(j:Int)+1 from by omega,Ns] at ih
  have hle:=UG (s:=s) hm j
  by_cases hb:BH .and (CV s (Bh ((j:Nat):Int)).toNat) 1=1
  ·have hs:b.length=16:=by
    rcases h with h|h
    ·subst h;rw[uP j zaa] at hb;cases hb
    ·exact h
   rw[if_pos hb,<-List.append_assoc] at ih
   have hg:BZ b (j:Int)=some (b.getD j []):=by rw[GY zaa];simp[List.getD,List.getElem?_eq_getElem (show j<b.length by omega)]
   have hx:(b.getD j []).length<=1000:=by
    have:=hm _ (List.getElem_mem (show j<b.length by omega))
    simpa [List.getD,List.getElem?_eq_getElem (show j<b.length by omega)] using this
   have happ:BI (acc++Ns s b j) (b.getD j [])=acc++Ns s b j++b.getD j []:=Aa _ _
   rw[Ae];conv=>lhs;whnf
   rw[ET zaa]
   conv=>lhs;whnf
   rw[ER hb];refine tq ?_;rw[hgb];refine to ?_;rw[hg];refine tq ?_;rw[happ];exact ih
  ·rw[if_neg hb,List.append_nil] at ih
   rw[Ae];conv=>lhs;whnf
   rw[ET zaa]
   conv=>lhs;whnf
   rw[AA hb];refine tq ?_;exact ih
theorem qf(hd:List UInt8)(h0:b0=[]\/FY 20 b0)(h1:b1=[]\/FY 32 b1):Ah E0 (.loop 46 1 0 2 [(2,.pa 0 0),(6,.sl .u8 hd),(7,.nm 1),(27,AV.agg [AV.i s0,AV.i s1]),(28,AV.i 0)] [(0,some (Rs.var [AV.sl Ty.u8.sl.sl [b0,b1],AV.i u])),(1,some (Rs.row 5 Ty.u8 []))]) fun r=>(∃ x:List UInt8,(¬((s0=0\/0<b0.length)/\(s1=0\/0<b1.length)))/\r=some (.fin .ret 0 [(4,.nil),(5,.i 27),(6,.sl .u8 hd),(7,.sl .u8 x)] []))\/(((s0=0\/0<b0.length)/\(s1=0\/0<b1.length))/\r=some (.fin (.exit 2) 0 [(6,.sl .u8 hd),(7,AV.sl Ty.u8 (Nu s0 b0++Nu s1 b1))] [])):=by
 have q0:=NC h0
 have q1:=NC h1
 have k0:=(Jl h0 zal).2
 have k1:=(Jl h1 zal).2
 have g0:BZ [b0,b1] 0=some b0:=lg0 _ _
 have g1:BZ [b0,b1] 1=some b1:=lg1 _ _ _
 have e0:=fun h=>VW b0 b1 b0 u 0 s0 s0 s1 hd [] zao g0 h k0 16 0 zaa
 have e1:=fun h=>VW b0 b1 b1 u 1 s1 s0 s1 hd (Nu s0 b0) (by have:=QY (s:=s0) k0;omega) g1 h k1 16 0 zaa
 simp only[List.nil_append,show ∀ s b,Ns s b 0=[] from fun _ _=>rfl,List.append_nil,show((0:Nat):Int)=0 from rfl] at e0 e1
 refine CU fun P hP=>?_
 refine tw ?_
 rcases AX s0 0 with hc0|hc0
 ·refine tw ?_;rw[A3C _ _ _ q0 q1];refine tw ?_
  rcases Decidable.em (0<b0.length) with hc1|hc1
  ·refine tw ?_;rw[e0 zaa];refine tw ?_;refine tw ?_
   rcases AX s1 0 with hc2|hc2
   ·refine tw ?_;rw[ug _ _ _ q0 q1];refine tw ?_
    rcases Decidable.em (0<b1.length) with hc3|hc3
    ·refine tw ?_;rw[e1 zaa];refine tw ?_;refine tw ?_;exact hP _ (Or.inr ⟨A8,rfl⟩)
    refine tw ?_;exact hP _ (Or.inl ⟨Nu s0 b0,A8,rfl⟩)
   subst hc2;refine tw ?_;rw[e1 zaa];refine tw ?_;refine tw ?_;exact hP _ (Or.inr ⟨A8,rfl⟩)
  refine tw ?_;exact hP _ (Or.inl ⟨[],A8,rfl⟩)
 subst hc0;refine tw ?_;rw[e0 zaa];refine tw ?_;refine tw ?_
 rcases AX s1 0 with hc4|hc4
 ·refine tw ?_;rw[ug _ _ _ q0 q1];refine tw ?_
  rcases Decidable.em (0<b1.length) with hc5|hc5
  ·refine tw ?_;rw[e1 zaa];refine tw ?_;refine tw ?_;exact hP _ (Or.inr ⟨A8,rfl⟩)
  refine tw ?_;exact hP _ (Or.inl ⟨Nu 0 b0,A8,rfl⟩)
 subst hc4;refine tw ?_;rw[e1 zaa];refine tw ?_;refine tw ?_;exact hP _ (Or.inr ⟨A8,rfl⟩)
theorem A3D(h0:b0=[]\/FY 20 b0)(h1:b1=[]\/FY 32 b1):Ah E0 (.call 46 [.agg [.sl (.sl (.sl .u8)) [b0,b1],.i u],.agg [.i s0,.i s1]] []) fun r=>(∃ e:Int,(e=1/\¬(0<=s0/\s0<=65535/\0<=s1/\s1<=65535)\/e=27/\(0<=s0/\s0<=65535/\0<=s1/\s1<=65535)/\¬((s0=0\/0<b0.length)/\(s1=0\/0<b1.length)))/\r=some (.ret (.tup [.sl .u8 [],.i e]) []))\/(((0<=s0/\s0<=65535/\0<=s1/\s1<=65535)/\(s0=0\/0<b0.length)/\(s1=0\/0<b1.length))/\r=some (.ret (.tup [.sl .u8 (dK s0 s1 b0 b1),.i 0]) [])):=by
 have k0:=(Jl h0 zal).2
 have k1:=(Jl h1 zal).2
 have l0:=QY (s:=s0) k0
 have l1:=QY (s:=s1) k1
 have hf:(Ar 5 [CE (CE [] 2 s0) 2 s1,Nu s0 b0++Nu s1 b1]).length<=4294967295:=by rw[Ai,AB,AB,List.length_append,List.length_nil];omega
 refine CU fun P hP=>tw ?_
 obtain(⟨x0,h0_1,yy0⟩|⟨⟨h0_2,h0_3,h0_4,h0_5⟩,yy0⟩):=qc b0 b1 u s0 s1
 ·refine Am yy0 ?_;exact hP _ (Or.inl ⟨1,A8,rfl⟩)
 refine Am yy0 ?_
 obtain(⟨x1,h1_1,yy1⟩|⟨⟨h1_2,h1_3⟩,yy1⟩):=qf b0 b1 u s0 s1 (CE (CE [] 2 s0) 2 s1) A8 A8
 ·refine Am yy1 ?_;exact hP _ (Or.inl ⟨27,A8,rfl⟩)
 refine Am yy1 ?_;rw[IR _ _ hf zao];refine tw ?_;exact hP _ (Or.inr ⟨A8,rfl⟩)
end
end Go.Proofs.YtnhgnfdbdflhcaaGreatDoor
namespace Go.Proofs.YtnhgnfdbdflhcaaGreatDoor
open Go Go.Ax
section
attribute [local irreducible] Cj Dt D9 DT DK BH Du Ey Fh FD Et D7 CV Df DX and' Dk DU CG Ba Bl CJ CS BK BM BB BG Dv G7 Dw EM Dl Bh CO Bz C9 Bo BD Bi BO Be BZ Dx Bf DL Bd BI D6 Dy fits Dz Dn AZ Ap BL
theorem Z8(b:List UInt8)(hb:b.length<=4294967296):Y E0 (.call 50 [.sl .u8 b] [])=some (.ret (.tup [.agg (Qh (NK b).1),.i (NK b).2]) []):=by
 refine tq ?_;rw[Pj _];refine tq ?_;rw[show Y E0 (.call 108 [.pa 0 0,.i 4] [.var [.sl .u8 b,.i 0,.i 0]])=_ from YQ b 0 0 4 hb (Nat.zero_le _) zal];generalize g0:V5 b 0 0 4=x0;obtain⟨v0,p0,er0⟩:=x0;have k0:p0<=b.length:=(by have:=nH (b:=b) (at':=0) (e:=0) (n:=4) (Nat.zero_le _);rw[g0] at this;exact this);have l0:v0.length<=b.length:=(by have:=WW (b:=b) (at':=0) (e:=0) (n:=4);rw[g0] at this;exact this)
 refine tq ?_
 rcases AX er0 0 with hc0|hc0
 ·refine tq ?_;rw[A4I g0 zat];rfl
 subst hc0;refine tq ?_;rw[Yj];refine tq ?_;rw[CY _ _ A8];refine tq ?_
 rcases Decidable.em (v0=OC) with hc1|hc1
 ·refine tq ?_;rw[Hm b p0 0 32 hb k0];generalize g1:Js b p0 0 32=x1;obtain⟨v1,p1,er1⟩:=x1;have k1:p1<=b.length:=(by have:=MF (b:=b) (at':=p0) (e:=0) (most:=32) k0;rw[g1] at this;exact this);have l1:v1.length<=b.length:=(by have:=J8 (b:=b) (at':=p0) (e:=0) (most:=32);rw[g1] at this;exact this)
  refine tq ?_;rw[Hm b p1 er1 128 hb k1];generalize g2:Js b p1 er1 128=x2;obtain⟨v2,p2,er2⟩:=x2;have k2:p2<=b.length:=za7;have l2:v2.length<=b.length:=za9
  refine tq ?_;rw[GM b p2 er2 8 hb k2];generalize g3:J7 b p2 er2 8=x3;obtain⟨v3,p3,er3⟩:=x3;have k3:p3<=b.length:=(by have:=Jt (b:=b) (at':=p2) (e:=er2) (size:=8) k2;rw[g3] at this;exact this)
  refine tq ?_;rw[GM b p3 er3 8 hb k3];generalize g4:J7 b p3 er3 8=x4;obtain⟨v4,p4,er4⟩:=x4;have k4:p4<=b.length:=(by have:=Jt (b:=b) (at':=p3) (e:=er3) (size:=8) k3;rw[g4] at this;exact this)
  refine tq ?_;rw[GM b p4 er4 8 hb k4];generalize g5:J7 b p4 er4 8=x5;obtain⟨v5,p5,er5⟩:=x5;have k5:p5<=b.length:=(by have:=Jt (b:=b) (at':=p4) (e:=er4) (size:=8) k4;rw[g5] at this;exact this)
  refine tq ?_;rw[GM b p5 er5 1 hb k5];generalize g6:J7 b p5 er5 1=x6;obtain⟨v6,p6,er6⟩:=x6;have k6:p6<=b.length:=(by have:=Jt (b:=b) (at':=p5) (e:=er5) (size:=1) k5;rw[g6] at this;exact this)
  refine tq ?_;rw[GM b p6 er6 8 hb k6];generalize g7:J7 b p6 er6 8=x7;obtain⟨v7,p7,er7⟩:=x7;have k7:p7<=b.length:=(by have:=Jt (b:=b) (at':=p6) (e:=er6) (size:=8) k6;rw[g7] at this;exact this)
  refine tq ?_;rw[GM b p7 er7 2 hb k7];generalize g8:J7 b p7 er7 2=x8;obtain⟨v8,p8,er8⟩:=x8;have k8:p8<=b.length:=(by have:=Jt (b:=b) (at':=p7) (e:=er7) (size:=2) k7;rw[g8] at this;exact this)
  refine tq ?_;rw[GM b p8 er8 2 hb k8];generalize g9:J7 b p8 er8 2=x9;obtain⟨v9,p9,er9⟩:=x9;have k9:p9<=b.length:=(by have:=Jt (b:=b) (at':=p8) (e:=er8) (size:=2) k8;rw[g9] at this;exact this)
  refine tq ?_;rw[YQ b p9 er9 32 hb k9 zal];generalize g10:V5 b p9 er9 32=x10;obtain⟨v10,p10,er10⟩:=x10;have k10:p10<=b.length:=(by have:=nH (b:=b) (at':=p9) (e:=er9) (n:=32) k9;rw[g10] at this;exact this);have l10:v10.length<=b.length:=(by have:=WW (b:=b) (at':=p9) (e:=er9) (n:=32);rw[g10] at this;exact this)
  refine tq ?_;rw[UC _ _ _ A8 A8]
  conv=>lhs;whnf
  rw[Ae]
  conv=>lhs;whnf
  rcases AX (WT b p10 er10) 0 with hc2|hc2
  ·refine tq ?_
   rw[WX g0 zat g1 g2 g3 g4 g5 g6 g7 g8 g9 g10];(repeat(first|rw[if_pos zab]|rw[if_neg zab]));rfl
  refine tq ?_
  rcases AX (↑v1.length) 32 with hc3|hc3
  ·rw[Fa zar]
   conv=>lhs;whnf
   try dsimp -iota -beta -eta -zeta only
   rw[WX g0 zat g1 g2 g3 g4 g5 g6 g7 g8 g9 g10];(repeat(first|rw[if_pos zab]|rw[if_neg zab]));rfl
  rw[EC zar]
  conv=>lhs;whnf
  rcases AY 1 v6 with hc4|hc4
  ·refine tq ?_
   rw[WX g0 zat g1 g2 g3 g4 g5 g6 g7 g8 g9 g10];(repeat(first|rw[if_pos zab]|rw[if_neg zab]));rfl
  refine tq ?_
  rw[WX g0 zat g1 g2 g3 g4 g5 g6 g7 g8 g9 g10];(repeat(first|rw[if_pos zab]|rw[if_neg zab]));rw[<-A2U]
 refine tq ?_;rw[A4J g0 zat];rfl
end
end Go.Proofs.YtnhgnfdbdflhcaaGreatDoor
namespace Go.Proofs.YtnhgnfdbdflhcaaGreatDoor
open Go Go.Ax Go.Eng
section
attribute [local irreducible] Cj Dt D9 DT DK BH Du Ey Fh FD Et D7 CV Df DX and' Dk DU CG Ba Bl CJ CS BK BM BB BG Dv G7 Dw EM Dl Bh CO Bz C9 Bo BD Bi BO Be BZ Dx Bf DL Bd BI D6 Dy fits Dz Dn AZ Ap BL
attribute [local irreducible] Ed Ej Gf fA NK GV Bv nameB A6o A4t RZ
theorem lS(kind attr height:Int)(policy unique b s:List UInt8)(hp:policy.length<=60000)(hu:unique.length<=60000)(hb:b.length<=1000000):Y E0 (.call 14 [.agg [.i kind,.i attr,.i height,.sl .u8 policy,.sl .u8 unique],.sl .u8 b,.sl .u8 s] [])=some (.ret (.tup [.agg (Qh (fA ⟨kind,attr,height,policy,unique⟩ b s).1),.i (fA ⟨kind,attr,height,policy,unique⟩ b s).2.1,.i (fA ⟨kind,attr,height,policy,unique⟩ b s).2.2]) []):=by
 have ed:=Z8 b zaa
 have ev:=jV unique b s zaa
 have en:=Ff kind attr height policy unique hp hu
 have hn:(nameB ⟨kind,attr,height,policy,unique⟩).length=32:=A1r _
 have hk:=A1q b
 rw[A3E];rw[show bits .and .i64 attr 4=BH .and attr 4 from(Af _ _ _).symm]
 generalize Gf unique b s=R at *
 obtain⟨leaf,ok⟩:=R
 generalize NK b=D at *
 obtain⟨A,e⟩:=D
 obtain⟨key,nonce,resets,restarts,clock,safe,updates,s0,s1,digest⟩:=A
 dsimp only[Qh] at *
 obtain⟨hk1,hk2,hk3⟩:=hk
 generalize nameB ⟨kind,attr,height,policy,unique⟩=nm at *
 cases ok
 ·refine tq ?_;rw[JY ..];refine tq ?_
  rcases AX (Bv {kind:=kind,attr:=attr,height:=height,policy:=policy,unique:=unique}) 0 with hc0|hc0
  ·refine tq ?_
   (unfold UX;dsimp only;(repeat(first|rw[if_pos zaF]|rw[if_neg zax]));try rfl)
  refine tq ?_
  rcases AX kind 2 with hc1|hc1
  ·refine tq ?_
   (unfold UX;dsimp only;(repeat(first|rw[if_pos zaF]|rw[if_neg zax]));try rfl)
  subst hc1;refine tq ?_
  rcases AL (BH BinOp.and attr 4) 0 with hc2|hc2
  ·refine tq ?_
   (unfold UX;dsimp only;(repeat(first|rw[if_pos zaF]|rw[if_neg zax]));try rfl)
  refine tq ?_;rw[ev];refine tq ?_
  (unfold UX;dsimp only;(repeat(first|rw[if_pos zaF]|rw[if_neg zax]));try rfl)
 ·refine tq ?_;rw[JY ..];refine tq ?_
  rcases AX (Bv {kind:=kind,attr:=attr,height:=height,policy:=policy,unique:=unique}) 0 with hc0|hc0
  ·refine tq ?_
   (unfold UX;dsimp only;(repeat(first|rw[if_pos zaF]|rw[if_neg zax]));try rfl)
  refine tq ?_
  rcases AX kind 2 with hc1|hc1
  ·refine tq ?_
   (unfold UX;dsimp only;(repeat(first|rw[if_pos zaF]|rw[if_neg zax]));try rfl)
  subst hc1;refine tq ?_
  rcases AL (BH BinOp.and attr 4) 0 with hc2|hc2
  ·refine tq ?_
   (unfold UX;dsimp only;(repeat(first|rw[if_pos zaF]|rw[if_neg zax]));try rfl)
  refine tq ?_;rw[ev];refine tq ?_;rw[ed];refine tq ?_
  rcases AX e 0 with hc3|hc3
  ·refine tq ?_
   (unfold UX;dsimp only;(repeat(first|rw[if_pos zaF]|rw[if_neg zax]));try rfl)
  subst hc3;refine tq ?_;rw[en];refine tq ?_;rw[CY _ _ A8];refine tq ?_
  rcases Decidable.em (key=nm) with hc4|hc4
  ·refine tq ?_
   (unfold UX;dsimp only;(repeat(first|rw[if_pos zaF]|rw[if_neg zax]));try rfl)
  refine tq ?_
  (unfold UX;dsimp only;(repeat(first|rw[if_pos zaF]|rw[if_neg zax]));try rfl)
end
section
attribute [local irreducible] Cj Dt D9 DT DK BH Du Ey Fh FD Et D7 CV Df DX and' Dk DU CG Ba Bl CJ CS BK BM BB BG Dv G7 Dw EM Dl Bh CO Bz C9 Bo BD Bi BO Be BZ Dx Bf DL Bd BI D6 Dy fits Dz Dn AZ Ap BL
attribute [local irreducible] E5 CP Bq nameB ES Em Ar FK En FH Eu Fe CE IU Ej Gf GV Ee Gp FC JL JZ Ed NK fA dK
theorem Yp(cs:List UInt8)(mask:Int)(m o:List UInt8):Y E0 (.call 3 [.sl .u8 cs,.i mask,.sl .u8 m,.sl .u8 o] [])=some (.ret (.b true) []):=by
 by_cases hm:m.length<=128
 ·obtain⟨⟨sd,au,en,ac,re,rs,ck,od,sb,su,mc,ix,l1,l2,l3,l4,l5,l6,ks,st,sp,rb,ru,vc,sf,dr,ss,ob,rl,wl⟩,⟨hi,hst⟩,hS⟩:=y5 2 cs [] zal
  have hsd:=hi.sdl
  have hsm:=hi.sdm
  have hre:=hi.re
  have hrs:=hi.rs
  have hru:=hi.ru
  have hvc:=hi.vc
  obtain⟨b0,b1,hrb,h0,hb1⟩:∃ b0 b1,rb=[b0,b1]/\(b0=[]\/FY 20 b0)/\FY 32 b1:=by
   rcases hi.rb with h|⟨b0,b1,h,h0,h1,h2⟩
   ·exact absurd h (hi.st hst zal)
   ·exact⟨b0,b1,h,h0,h2 zal⟩
  subst hrb
  dsimp only at hsd hsm hre hrs hru hvc
  have hb16:=hb1.1
  have e3:BH .and mask 65535=mask%65536:=JR 16 zal mask
  have hmk:0<=mask%65536/\mask%65536<=65535:=zaa
  generalize mask%65536=mk at e3 hmk
  have hD:Y E0 (.call 46 [.agg [.sl (.sl (.sl .u8)) [b0,b1],.i ru],.agg [.i 0,.i mk]] [])=some (.ret (.tup [.sl .u8 (dK 0 mk b0 b1),.i 0]) []):=by
   rcases A3D b0 b1 ru 0 mk h0 (.inr hb1) with⟨e,he,hr⟩|⟨-,hr⟩
   ·exact absurd he zaa
   ·exact hr
  have hR:Y E0 (.call 54 [.agg [.sl (.sl (.sl .u8)) [b0,b1],.i ru],.agg [.i 0,.i mk]] [])=some (.ret (.tup [.sl .u8 (dK 0 mk b0 b1),.i 0]) []):=by
   rcases jr b0 b1 ru 0 mk h0 (.inr hb1) with⟨e,he,hr⟩|⟨-,hr⟩
   ·exact absurd he.2 zaa
   ·exact hr
  have hd32:(dK 0 mk b0 b1).length=32:=by unfold dK;exact A7 _
  generalize dK 0 mk b0 b1=d at hD hR hd32
  have hso:=AQ o
  have hk:Bv ⟨2,5,0,CP o,List.replicate (uniq 2).toNat 0⟩=0:=by
   unfold Bv
   simp only[hso,List.length_replicate];rw[if_neg zal,if_neg zal,if_neg zal]
  obtain⟨S,-,hS1,hp⟩:=uK (sd:=sd) (ob:=List.replicate 3 obj0) (h:=0) (k:=2) (a:=5) (t:=0) (o:=CP o) (auth:=[]) (d:=[]) zaa zal hk zao zao zao;rw[show EK (List.replicate 3 obj0)=0 from rfl,show Em 2 0 ⟨[],S,[]⟩=Ed S 0 by rw[Em,if_pos rfl],show(512:Int)+((0:Nat):Int)=512 from rfl] at hp
  have hz:Bd 3 (((0,0,0,[],[]),([],[],[]),0):El objT)=List.replicate 3 obj0:=zbp
  have hK:Bv ⟨2,5,0,CP o,Ed S 0⟩=0:=by
   have h:=uh (seed:=S) (o:=o) (t:=0)
   rwa [Z9,show RZ 0=5 from by decide] at h
  have hU:=U7 (seed:=S) (h:=0) zal
  have hE:=Jh (p:=⟨2,5,0,CP o,Ed S 0⟩) (by show(CP o).length<=65535;omega) (by show(Ed S 0).length<=65535;omega)
  have hE2:(ES ⟨2,5,0,CP o,Ed S 0⟩).length<=4294967296:=by rw[hE];show 7+(CP o).length+(Ed S 0).length<=4294967296;omega
  clear hE
  have hn:=Ac ⟨2,5,0,CP o,Ed S 0⟩
  have hR0:Ee [] (Ed S 0) 0=([(Ed S 0,1)],0,0):=by unfold Ee;rfl
  have hx:GK ((List.replicate 3 obj0).set 0 ((2,5,0,CP o,Ed S 0),([],S,[]),0)) (512+0)=some ((2,5,0,CP o,Ed S 0),([],S,[]),0):=rfl
  have h4:BH .and 5 4≠0:=by rw[Af];decide
  obtain⟨A,hA⟩:∃ A:Att,A=⟨nameB ⟨2,5,0,CP o,Ed S 0⟩,m,re,rs,vc,sf,ru,0,mk,d⟩:=⟨_,rfl⟩
  have hAk:A.key=nameB ⟨2,5,0,CP o,Ed S 0⟩:=by rw[hA]
  have hAok:OkA A:=by
   rw[hA];exact⟨hn,hm,(by show 0<=re/\re<9223372036854775808;omega),(by show 0<=rs/\rs<9223372036854775808;omega),(by show 0<=vc/\vc<9223372036854775808;omega),(by show 0<=ru/\ru<9223372036854775808;omega),(by show(0:Int)<=0/\(0:Int)<65536;decide),(by show 0<=mk/\mk<65536;omega),hd32⟩
  have hAl:=VV A (by rw[hAk,hn];decide) (by rw[hA];show m.length<=10000;omega) (by rw[hA];show d.length<=10000;omega)
  have hV:fA ⟨2,5,0,CP o,Ed S 0⟩ (GV A) (Ej S 0 0 (GV A))=(A,0,0):=by
   have h:=A4u (o:=o) (t:=0) (A11 (seed:=S) (m:=GV A) (h:=0) (leaf:=0) zal zal) (A2Z hAok)
   rw[Z9,show RZ 0=5 from by decide,if_pos hAk] at h;exact h
  have hq:=eG sd au en ac re rs ck od sb su mc ix l1 l2 l3 l4 l5 l6 [] st sp [b0,b1] ru vc sf dr ss ((List.replicate 3 obj0).set 0 ((2,5,0,CP o,Ed S 0),([],S,[]),0)) rl wl 15 (512+0) 0 mk [] [] m [] 2 5 0 (CP o) (Ed S 0) [] S [] 0 d zao zal zal hx rfl h4 hm zal zal zao zaa zaa zaa (by rw[hR0]) zaa hD
  have hr:=aF sd au en ac re rs ck od sb su mc ix l1 l2 l3 l4 l5 l6 [] st sp [b0,b1] ru vc sf dr ss ((List.replicate 3 obj0).set 0 ((2,5,0,CP o,Ed S 0),([],S,[]),0)) rl wl 15 (512+0) 0 mk [] [] m [] 2 5 0 (CP o) (Ed S 0) [] S [] 0 d 0 zao zal zal hx zal zal zao zaa zaa zaa zaa zaa hR
  have hqa:FC [] 2 5 0 (Ed S 0) S m 0 A=([(Ed S 0,1)],⟨0,[],[GV A,Ej S 0 0 (GV A)]⟩):=by
   unfold FC
   rw[if_neg zal,if_neg h4,if_neg zaa,if_neg zal,hR0,if_neg (fun h=>h rfl)]
  rw[<-hA,hR0] at hq;rw[<-hA,hqa] at hr
  have hAX:Qh A=Qh ⟨nameB ⟨2,5,0,CP o,Ed S 0⟩,m,re,rs,vc,sf,ru,0,mk,d⟩:=by rw[hA]
  have hsl:=YG (seed:=S) (m:=GV A) (h:=0) (leaf:=0) zal zal
  refine tq ?_;rw[Yf];refine tq ?_;rw[hS]
  conv=>lhs;whnf
  try dsimp -iota -beta -eta -zeta only
  rw[hz];refine tq ?_;rw[Ig _];refine tq ?_;rw[A1X ..];refine tq ?_;rw[kQ _ _ _ _ _ _ _ _ _ _ _ _ _ _ _ _ _ _ _ _ _ _ _ _ _ _ _ _ _ _ _ _ _ _ _ _ _ _ _ _ zao zaa (fun l hl=>by rw[hsm l hl];decide) zao zaa zao,hp]
  refine tq ?_;rw[VM _ hE2,A14 hK];refine tq ?_;rw[uQ _ _ _ A8]
  conv=>lhs;whnf
  try dsimp -iota -beta -eta -zeta only
  rw[e3];refine tq ?_;rw[hq];refine tq ?_;rw[lS _ _ _ _ _ _ _ zaa zaa zaa,hV,hAX];refine tq ?_;rw[hr];refine tq ?_;rw[CY _ _ A8]
  conv=>lhs;whnf
  rw[Ae]
  conv=>lhs;whnf
  rw[decide_eq_true rfl];conv=>lhs;whnf
  rw[ER zaa]
  conv=>lhs;whnf
  rw[ER zaa]
  conv=>lhs;whnf
  rw[Ae]
  conv=>lhs;whnf
  rw[ER zaa]
  conv=>lhs;whnf
  rw[S9 (by simp[Es,nI,EN])];conv=>lhs;whnf
  rw[ER zaa]
  conv=>lhs;whnf
  try dsimp -iota -beta -eta -zeta only
  rw[Gj zaa]
  conv=>lhs;whnf
  rw[ET zaa]
  conv=>lhs;whnf
  rw[e3];refine tq ?_;rw[A0r _ _ A8 A8]
  conv=>lhs;whnf
  simp
 ·refine tq ?_;rw[Yf];exact tq rfl
end
end Go.Proofs.YtnhgnfdbdflhcaaGreatDoor
