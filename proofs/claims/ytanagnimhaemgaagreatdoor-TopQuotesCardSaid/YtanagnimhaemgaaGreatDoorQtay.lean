/-
  Own texts, laid together for this claim: contracts of functions of the program and its references, used by the statements of this seat.
-/
import Derived.Test.YtanagnimhaemgaaGreatDoorQtac
import Derived.Test.YtanagnimhaemgaaGreatDoorQtaf
import Derived.Test.YtanagnimhaemgaaGreatDoorQtag
import Derived.Test.YtanagnimhaemgaaGreatDoorQtai
import Derived.Test.YtanagnimhaemgaaGreatDoorQtaj
import Derived.Test.YtanagnimhaemgaaGreatDoorQtak
import Derived.Test.YtanagnimhaemgaaGreatDoorQtaq
import Derived.Test.YtanagnimhaemgaaGreatDoorQtas
import Derived.Test.YtanagnimhaemgaaGreatDoorQtav
import Derived.Test.YtanagnimhaemgaaGreatDoorQtaw
import Derived.Test.YtanagnimhaemgaaGreatDoorQtax
set_option linter.all false
set_option maxHeartbeats 40000000
set_option maxRecDepth 100000
namespace Go.Ax
open Go.Eng
theorem aH(a:Att)(h1:a.key.length<=10000)(h2:a.nonce.length<=10000)(h3:a.digest.length<=10000):(Ef a).length<=100000:=by
 unfold Ef
 simp only[Ah,BD,AB,Aj,List.length_append,List.length_cons,List.length_nil,NJ]
 omega
end Go.Ax
namespace Go.Ax
open Go Go.Eng Go.RowKit
variable (b:List UInt8)(x:Int)
noncomputable def JS(ks:List (El BR))(p1 p2 p3:Int)(p5 s2 m:List UInt8):List (El BR)×Ans :=
 if p1≠2 then(ks,⟨19,[],[]⟩) else if Ar .and p2 4≠0 then(ks,⟨20,[],[]⟩) else if 128<m.length then(ks,⟨4,[],[]⟩)
 else if(FN ks p5 p3).2.2≠0 then(ks,⟨(FN ks p5 p3).2.2,[],[]⟩) else((FN ks p5 p3).1,⟨0,[],[ES s2 p3 (FN ks p5 p3).2.1 m]⟩)
noncomputable def H8(ks:List (El BR))(p1 p2 p3:Int)(p5 s2 m:List UInt8)(e:Int)(a:Att):List (El BR)×Ans :=
 if p1≠2 then(ks,⟨19,[],[]⟩) else if Ar .and p2 4=0 then(ks,⟨20,[],[]⟩) else if 128<m.length then(ks,⟨4,[],[]⟩)
 else if e≠0 then(ks,⟨e,[],[]⟩)
 else if(FN ks p5 p3).2.2≠0 then(ks,⟨(FN ks p5 p3).2.2,[],[]⟩) else((FN ks p5 p3).1,⟨0,[],[Ef a,ES s2 p3 (FN ks p5 p3).2.1 (Ef a)]⟩)
theorem Kp.clear{a k:Int}{s:MS}(h:Kp a k s)(hk:k<=900){x0 x1 R x2 x3:List UInt8}(f0:x0.length=32)(f1:x1.length=32)(fR:R.length=32)(f2:x2.length<=32)(f3:x3.length<=32):Kp a (k+1) {s with sd:=[x0,R,x1],au:=[x2,[],x3,[]],ix:=[],l1:=0,l2:=5,l3:=100,l4:=0,l5:=0,l6:=1000,dr:=s.dr+1,ss:=Ba 3 (0,[],[],0,0,0,0,false),ob:=Ba 3 ((0,0,0,[],[]),([],[],[]),0),rl:=[],wl:=[]}:=by
 have h0:=h.kk
 have hd:=h.dr
 have h3:=A7X (n:=3) (x:=((0,[],[],0,0,0,0,false):El sesT)) (p:=AA8) zad ⟨by decide,by decide⟩
 have h4:=A7X (n:=3) (x:=(((0,0,0,[],[]),([],[],[]),0):El objT)) (p:=AAA) zad ⟨by decide,by decide,by decide,by decide,by decide,by decide,by decide⟩
 have e3:∀ {n:Nat},(n:Int)=3->n=3:=fun h=>zaa
 exact {h.up (k':=k+1) zaa with sdl:=rfl,sdm:=(by simp only[List.forall_mem_cons,List.not_mem_nil,false_implies,implies_true,and_true];exact⟨f0,fR,f1⟩),aul:=rfl,aum:=(by simp only[List.forall_mem_cons,List.not_mem_nil,false_implies,implies_true,and_true,List.length_nil];exact⟨f2,by decide,f3,by decide⟩),ixl:=zak,ixm:=zak,lk:=(show kP 0 5 100 0 0 1000 from by unfold kP;decide),dr:=zaR,ssl:=e3 h3.1,ssm:=h3.2,obl:=e3 h4.1,obm:=h4.2,rl:=(by simp only[List.length_nil];omega),wl:=(by simp only[List.length_nil];omega)}
def bl(x:List UInt8):List UInt8:=WE x.length++x
def n8(x:Int):List UInt8:=Oi 8 (UInt64.ofInt x)
def n2(x:Int):List UInt8:=Oi 2 (UInt64.ofInt x)
def zf(b:Bool):UInt8:=if b then 1 else 0
theorem Ce(x:List UInt8):(bl x).length=2+x.length:=by simp[bl,TM]
theorem Bq:(n8 x).length=8:=JB _ _
theorem D9:(n2 x).length=2:=JB _ _
theorem GI{b x:List UInt8}(h:x.length<=65535):Ht b x=b++bl x:=by rw[PD h,bl,List.append_assoc]
theorem KL:BQ b 8 x=b++n8 x:=Ko (n:=8) zaa
theorem U4:BQ b 2 x=b++n2 x:=Ko (n:=2) zaa
def n4(x:Int):List UInt8:=Oi 4 (UInt64.ofInt x)
theorem Dn:(n4 x).length=4:=JB _ _
theorem A6G:BQ b 4 x=b++n4 x:=Ko (n:=4) zaa
def YP(q:Int)(p:List UInt8):List UInt8:=sha256 (Ag 12 [n8 q,p])
def Rh(q:Int)(p:List UInt8):List UInt8:=YP q p++n8 q++n4 (p.length:Int)++p
theorem Df(q:Int)(p:List UInt8):(YP q p).length=32:=A7 _
theorem Du(q:Int)(p:List UInt8):(Rh q p).length=44+p.length:=by simp[Rh,Df,Bq,Dn];omega
def A8m(rb:List (List (List UInt8))):Int:=(if(rb.getD 0 []).length=16 then 1 else 0)+(if(rb.getD 1 []).length=16 then 2 else 0)
def NS(rb:List (List (List UInt8)))(ru:Int):List UInt8:=UInt8.ofInt (A8m rb)::(n8 ru++rb.flatten.flatten)
theorem Vl(u:Int):NS [] u=0::n8 u:=by
 simp only[NS,List.flatten_nil,List.append_nil];rfl
def Yn(x:El AL):List UInt8:=UInt8.ofInt x.1::UInt8.ofInt x.2.1::UInt8.ofInt x.2.2.1::(n2 x.2.2.2.1++(zf x.2.2.2.2.2.2.1::(bl x.2.2.2.2.1++(bl x.2.2.2.2.2.1++bl x.2.2.2.2.2.2.2))))
def Ri(x:El BR):List UInt8:=bl x.1++[UInt8.ofInt x.2]
def encS(sd au:List (List UInt8))(en:List UInt8)(ac re rs ck:Int)(od:Bool)(sb:List (List (List UInt8)))(su mc:Int)(ix:List (El AL))(l1 l2 l3 l4 l5 l6:Int)(ks:List (El BR)):List UInt8 :=
 [1,UInt8.ofInt ac]++bl (sd.getD 0 [])++bl (sd.getD 1 [])++bl (sd.getD 2 [])++bl (au.getD 0 [])++bl (au.getD 1 [])++bl (au.getD 2 [])++bl (au.getD 3 [])++bl en++n8 re++n8 rs++n8 ck++[zf od]++bl (NS sb su)++n8 mc
  ++ [UInt8.ofInt (ix.length:Int)]++ix.flatMap Yn++n8 l1++n8 l2++n8 l3++n8 l4++n8 l5++n8 l6++[UInt8.ofInt (ks.length:Int)]++ks.flatMap Ri
@[reducible] def Rt (sd au:List (List UInt8)) (en:List UInt8) (ac re rs ck:Int) (od:Bool) (sb:List (List (List UInt8))) (su mc:Int) (ix:List (El AL)) (l1 l2 l3 l4 l5 l6:Int) (ks:List (El BR)):List AV:=[.sl (.sl .u8) sd,.sl (.sl .u8) au,.sl .u8 en,.i ac,.i re,.i rs,.i ck,.b od,.sl (.sl (.sl .u8)) sb,.i su,.i mc,.sl AL ix,.i l1,.i l2,.i l3,.i l4,.i l5,.i l6,.sl BR ks]
structure stOK (sd au:List (List UInt8)) (en:List UInt8) (ac re rs ck su mc:Int) (ix:List (El AL)) (l1 l2 l3 l4 l5 l6:Int) (ks:List (El BR)):Prop where
 sl:sd.length=3
 al:au.length=4
 sm:∀ x∈sd,x.length<=1000
 am:∀ x∈au,x.length<=1000
 en:en.length<=1000
 ac:0<=ac/\ac<=3
 re:0<=re/\re<=1000000
 rs:0<=rs/\rs<=1000000
 ck:0<=ck/\ck<=2000000000000
 su:0<=su/\su<=1000000
 mc:0<=mc/\mc<=2000000000000
 il:ix.length<=6
 im:∀ x∈ix,NQ x
 lk:kP l1 l2 l3 l4 l5 l6
 kl:ks.length<=8
 km:∀ x∈ks,eH x
@[reducible] def GR (ar:List (List UInt8)) (wr cu to:Int) (of:Bool) (sd au:List (List UInt8)) (en:List UInt8) (ac re rs ck:Int) (od:Bool) (sb:List (List (List UInt8))) (su mc:Int) (ix:List (El AL)) (l1 l2 l3 l4 l5 l6:Int) (ks:List (El BR)) (st sp:Bool) (rb:List (List (List UInt8))) (ru vc:Int) (sf:Bool) (dr:Int) (ss:List (El sesT)) (ob:List (El objT)) (rl wl:List Int) (on:Bool) (nx:Int):AV :=
 .agg [.sl (.sl .u8) ar,.i wr,.i cu,.i to,.b of,.sl (.sl .u8) sd,.sl (.sl .u8) au,.sl .u8 en,.i ac,.i re,.i rs,.i ck,.b od,.sl (.sl (.sl .u8)) sb,.i su,.i mc,.sl AL ix,.i l1,.i l2,.i l3,.i l4,.i l5,.i l6,.sl BR ks,.b st,.b sp,.sl (.sl (.sl .u8)) rb,.i ru,.i vc,.b sf,.i dr,.sl sesT ss,.sl objT ob,.sl .i64 rl,.sl .i64 wl,.b on,.i nx]
@[reducible] def zg (ar:List (List UInt8)) (wr cu to:Int) (of on:Bool) (nx:Int):AV:=GR ar wr cu to of [] [] [] 0 0 0 0 false [] 0 0 [] 0 0 0 0 0 0 [] false false [] 0 0 false 0 [] [] [] [] on nx
@[reducible] def fmC:List AV:=[.i 1,.i 0,.i 0,.i 1,.i 0,.i 2,.i 0,.i 0,.i 1,.i 0,.i 4,.i 0,.i 0,.i 0,.i 0,.i 5,.i 0,.i 0,.i 2,.i 0,.i 6,.i 0,.i 0,.i 1,.i 2,.i 7,.i 0,.i 0,.i 1,.i 1,.i 8,.i 0,.i 0,.i 1,.i 0,.i 9,.i 1,.i 1,.i 3,.i 3,.i 10,.i 1,.i 1,.i 3,.i 3,.i 11,.i 1,.i 1,.i 0,.i 2,.i 12,.i 0,.i 0,.i 1,.i 0,.i 13,.i 1,.i 1,.i 0,.i 0,.i 14,.i 1,.i 1,.i 0,.i 1,.i 15,.i 1,.i 1,.i 2,.i 1,.i 16,.i 0,.i 0,.i 1,.i 0,.i 17,.i 0,.i 0,.i 6,.i (-1),.i 18,.i 1,.i 1,.i 2,.i 1,.i 19,.i 0,.i 0,.i 1,.i 3,.i 20,.i 0,.i 0,.i 1,.i 0,.i 21,.i 1,.i 1,.i 4,.i 2,.i 22,.i 1,.i 1,.i 1,.i 0,.i 23,.i 2,.i 1,.i 1,.i 1,.i 24,.i 2,.i 1,.i 2,.i 0,.i 25,.i 2,.i 1,.i 0,.i 0,.i 26,.i 2,.i 1,.i 0,.i 1,.i 27,.i 2,.i 1,.i 0,.i 1,.i 28,.i 2,.i 1,.i 0,.i 0,.i 29,.i 2,.i 1,.i 0,.i 0,.i 30,.i 1,.i 1,.i 0,.i 1,.i 31,.i 1,.i 1,.i 0,.i 0,.i 32,.i 1,.i 1,.i 0,.i 0,.i 33,.i 1,.i 1,.i 3,.i 0]
def MH(x:El AQ):List UInt8:=n2 x.1++(bl x.2.1++bl x.2.2)
def Gt(c:Int)(hs:List Int)(az:List (El AQ))(is:List Int)(bs:List (List UInt8)):List UInt8 :=
 hs.flatMap n2++az.flatMap MH++is.flatMap n8++[UInt8.ofInt (bs.length:Int)]++bs.flatMap bl
def Hm(c:Int)(hs:List Int)(az:List (El AQ))(is:List Int)(bs:List (List UInt8)):List UInt8 :=
 [83,87]++n2 (5+(Gt c hs az is bs).length:Int)++[UInt8.ofInt c]++Gt c hs az is bs
def JU(e:Int)(is:List Int)(bs ns:List (List UInt8)):List UInt8 :=
 if e≠0 then [UInt8.ofInt e] else [UInt8.ofInt e,UInt8.ofInt (is.length:Int)]++is.flatMap n8++[UInt8.ofInt (bs.length:Int)]++bs.flatMap bl++[UInt8.ofInt (ns.length:Int)]++ns.flatMap bl
end Go.Ax
namespace Go.Proofs.YtanagnimhaemgaaGreatDoor
open Go Go.Ax Go.Eng
section
attribute [local irreducible] Bl CQ CS Bo Bg Ar CU Dw EN Dy EC Bf BU Bv Bz and' C9 CB BK Au BA BL BN Aa Ad AP AZ CV Dq CW DI CE BP BM BF BG BB AU BC Ae Ap Ai CX BH Bh Ba BO CG CY CJ fits CZ CO A8 AA Ac
attribute [local irreducible] Aw Di DC nameB EL EJ Ag Ei Eo FU FD Fb BQ Iu ES G6 Ef NM NP
variable (sd au:List (List UInt8))(en:List UInt8)(ac re rs ck:Int)(od:Bool)(sb:List (List (List UInt8)))(su mc:Int)(ix:List (El AL))(l1 l2 l3 l4 l5 l6:Int)(ks:List (El BR))(st sp:Bool)(rb:List (List (List UInt8)))(ru vc:Int)(sf:Bool)(dr:Int)(ss:List (El sesT))(ob:List (El objT))(rl wl:List Int)
theorem eQ(c h q0 q1:Int)(hs:List Int)(az:List (El AQ))(m:List UInt8)(bs:List (List UInt8))(p1 p2 p3:Int)(p4 p5 s1 s2 s3:List UInt8)(hr:Int)(d:List UInt8)(hl:ob.length<=1000)(hhs:hs.length<=100)(hbs:bs.length<=100)(hx:En ob h=some ((p1,p2,p3,p4,p5),(s1,s2,s3),hr))(h1:p1=2)(ha:Ar .and p2 4≠0)(hm:m.length<=128)(hkl:ks.length<=100)(hh:0<=p3/\p3<=3)(hu:∀ x∈ks,0<=x.2/\x.2<=1000)(h2:s2.length<=1000)(h4:p4.length<=1000)(h5:p5.length<=1000)(he:(FN ks p5 p3).2.2=0)(hd:d.length<=1000)
  (hD:Y E0 (.call 256 [.agg [.sl (.sl (.sl .u8)) rb,.i ru],.agg [.i q0,.i q1]] [])=some (.ret (.tup [.sl .u8 d,.i 0]) [])) :
  Y E0 (.call 201 [(sX sd au en ac re rs ck od sb su mc ix l1 l2 l3 l4 l5 l6 ks st sp rb ru vc sf dr ss ob rl wl),.agg [.i c,.sl .i64 (h::hs),.sl AQ az,.sl .i64 [q0,q1],.sl (.sl .u8) (m::bs)]] [])=some (.ret (.tup [(sX sd au en ac re rs ck od sb su mc ix l1 l2 l3 l4 l5 l6 ((FN ks p5 p3).1) st sp rb ru vc sf dr ss ob rl wl),.agg [.i 0,.sl .i64 [],.sl (.sl .u8) [Ef ⟨nameB ⟨p1,p2,p3,p4,p5⟩,m,re,rs,vc,sf,ru,q0,q1,d⟩,ES s2 p3 (FN ks p5 p3).2.1 (Ef ⟨nameB ⟨p1,p2,p3,p4,p5⟩,m,re,rs,vc,sf,ru,q0,q1,d⟩)],.sl (.sl .u8) []]]) []):=by
 have e1:=Yl sd au en ac re rs ck od sb su mc ix l1 l2 l3 l4 l5 l6 ks st sp rb ru vc sf dr ss ob rl wl c h hs az [q0,q1] m bs p1 p2 p3 p4 p5 s1 s2 s3 hr true hl hhs hbs hx h1 (by rw[decide_eq_false ha];rfl) hm
 have hn:=EU ⟨p1,p2,p3,p4,p5⟩
 have ea:=Ym ⟨nameB ⟨p1,p2,p3,p4,p5⟩,m,re,rs,vc,sf,ru,q0,q1,d⟩ zaR zaR zaR
 have el:=aH ⟨nameB ⟨p1,p2,p3,p4,p5⟩,m,re,rs,vc,sf,ru,q0,q1,d⟩ zaR zaR zaR
 dsimp only[YN] at ea
 generalize Ef ⟨nameB ⟨p1,p2,p3,p4,p5⟩,m,re,rs,vc,sf,ru,q0,q1,d⟩=Q at *
 have e2:=zX sd au en ac re rs ck od sb su mc ix l1 l2 l3 l4 l5 l6 ks st sp rb ru vc sf dr ss ob rl wl p1 p2 p3 p4 p5 s1 s2 s3 hr Q hkl hh hu h2 zaa he
 refine tq ?_;rw[e1];refine tq ?_;rw[YM (hl:=Aq) ..];refine tq ?_;rw[kw (hl:=Aq) ..];refine tq ?_;rw[hD];refine tq ?_;rw[YH _ _ _ _ _ Aq Aq];refine tq ?_;rw[QU (hl:=Aq) ..];refine tq ?_;rw[ea];refine tq ?_;rw[e2];exact tq rfl
end
section
attribute [local irreducible] Bl CQ CS Bo Bg Ar CU Dw EN Dy EC Bf BU Bv Bz and' C9 CB BK Au BA BL BN Aa Ad AP AZ CV Dq CW DI CE BP BM BF BG BB AU BC Ae Ap Ai CX BH Bh Ba BO CG CY CJ fits CZ CO A8 AA Ac
theorem Fe:Y E0 (.call 156 [] [])=some (.ret (.agg [.i (-2),.i 0,.i 0,.i 0,.i 0,.i 0,.i 1,.i 0,.i 0,.i 0,.i 1,.i 0,.i (-2),.i 0,.i 0,.i 0,.i 0,.i 0,.i 0,.i 0,.i 0,.i 0,.i 2,.i 0,.i 0,.i 0,.i 1,.i 2,.i 0,.i 0,.i 1,.i 1,.i 0,.i 0,.i 1,.i 0,.i 1,.i 1,.i 3,.i 3,.i 1,.i 1,.i 3,.i 3,.i 1,.i 1,.i 0,.i 2,.i 0,.i 0,.i 1,.i 0,.i 1,.i 1,.i 0,.i 0,.i 1,.i 1,.i 0,.i 1,.i 1,.i 1,.i 2,.i 1,.i 0,.i 0,.i 1,.i 0,.i 0,.i 0,.i 6,.i (-1),.i 1,.i 1,.i 2,.i 1,.i 0,.i 0,.i 1,.i 3,.i 0,.i 0,.i 1,.i 0,.i 1,.i 1,.i 4,.i 2,.i 1,.i 1,.i 1,.i 0,.i 2,.i 1,.i 1,.i 1,.i 2,.i 1,.i 2,.i 0,.i 2,.i 1,.i 0,.i 0,.i 2,.i 1,.i 0,.i 1,.i 2,.i 1,.i 0,.i 1,.i 2,.i 1,.i 0,.i 0,.i 2,.i 1,.i 0,.i 0,.i 1,.i 1,.i 0,.i 1,.i 1,.i 1,.i 0,.i 0,.i 1,.i 1,.i 0,.i 0,.i 1,.i 1,.i 3,.i 0]) []):=by
 rw[AO]
 kernel_rfl
end
section
attribute [local irreducible] Bl CQ CS Bo Bg Ar CU Dw EN Dy EC Bf BU Bv Bz and' C9 CB BK Au BA BL BN Aa Ad AP AZ CV Dq CW DI CE BP BM BF BG BB AU BC Ae Ap Ai CX BH Bh Ba BO CG CY CJ fits CZ CO A8 AA Ac
attribute [local irreducible] Aw
theorem A3b(x:Bool):Y E0 (.call 123 [.b x] [])=some (.ret (.u8 (zf x)) []):=by
 cases x
 ·refine tq ?_
  rfl
 ·refine tq ?_
  rfl
theorem YT(l:List (List UInt8))(i:Int)(hi:0<=i)(hl:l.length<=1000):Y E0 (.call 121 [.sl (.sl .u8) l,.i i] [])=some (.ret (.sl .u8 (l.getD i.toNat [])) []):=by
 refine tq ?_
 rcases ZV (↑l.length) i with hc0|hc0
 ·
  refine tq ?_
  (rw[List.getD_eq_getElem?_getD,List.getElem?_eq_none zaa];rfl)
 refine tq ?_
 refine tq ?_
 rw[D8 zaa]
 conv=>lhs;whnf
 (rw[List.getD_eq_getElem?_getD,List.getElem?_eq_getElem zaa];rfl)
theorem rV(u:Int):Y E0 (.loop 155 0 0 1 [(1,.pa 0 0),(3,.i 0),(7,.i 0),(8,.i 0)] [(0,some (.var [.sl (.sl (.sl .u8)) [],.i u]))])=some (.fin (.exit 0) 0 [(3,.i 0)] []):=by
 rw[AO];conv=>lhs;whnf
 exact tq rfl
theorem rW(u:Int)(l:List UInt8):Y E0 (.loop 124 0 0 2 [(1,.pa 0 0),(3,.nm 1),(16,.i 0),(17,.i 0)] [(0,some (.var [.sl (.sl (.sl .u8)) [],.i u])),(1,some (.row 5 .u8 l))])=some (.fin (.exit 0) 0 [(3,.sl .u8 l)] []):=by
 rw[AO];conv=>lhs;whnf
 exact tq rfl
theorem A3c(u:Int):Y E0 (.call 155 [.agg [.sl (.sl (.sl .u8)) [],.i u]] [])=some (.ret (.i 0) []):=by
 have e:Ap ([]:List (List (List UInt8)))=0:=zaK
 refine tq ?_
 rw[e,rV]
 exact tq rfl
theorem lK(u:Int):Y E0 (.call 124 [.agg [.sl (.sl (.sl .u8)) [],.i u]] [])=some (.ret (.sl .u8 (0::n8 u)) []):=by
 have e:Ap ([]:List (List (List UInt8)))=0:=zaK
 refine tq ?_
 rw[A3c _]
 refine tq ?_
 rw[D5 _ _ _ Aq]
 refine tq ?_
 rw[e,rW]
 refine tq ?_
 (rw[KL,Dh];rfl)
theorem rX(x:Int)(b:List UInt8)(hb:b.length<=100000):Y E0 (.loop 122 0 2 2 [(1,.pa 0 0),(5,.sl .i64 [x]),(6,.i 1),(7,.i 0)] [(0,some (.var [.nm 1])),(1,some (.row 5 .u8 b))])=some (.fin (.exit 0) 3 [] [(0,some (.var [.nm 2])),(1,some (.row 5 .u8 b)),(2,some (.row 5 .u8 (b++n8 x)))]):=by
 rw[AO];conv=>lhs;whnf
 refine tq ?_
 rw[D5 _ _ _ Aq]
 refine tq ?_
 refine tq ?_
 rfl
theorem rY(x y z:Int)(b:List UInt8)(hb:b.length<=100000):Y E0 (.loop 122 0 2 2 [(1,.pa 0 0),(5,.sl .i64 [x,y,z]),(6,.i 3),(7,.i 0)] [(0,some (.var [.nm 1])),(1,some (.row 5 .u8 b))])=some (.fin (.exit 0) 3 [] [(0,some (.var [.nm 2])),(1,some (.row 5 .u8 b)),(2,some (.row 5 .u8 (b++n8 x++n8 y++n8 z)))]):=by
 rw[AO];conv=>lhs;whnf
 refine tq ?_
 rw[D5 _ _ _ Aq]
 refine tq ?_
 rw[AO]
 conv=>lhs;whnf
 rw[Dp zaa]
 conv=>lhs;whnf
 rw[D8 zaf]
 conv=>lhs;whnf
 try dsimp -iota -beta -eta -zeta only
 rw[Ak]
 rw[D5 _ _ _ Aq]
 refine tq ?_
 rw[AO]
 conv=>lhs;whnf
 rw[Dp zaa]
 conv=>lhs;whnf
 rw[D8 zaf]
 conv=>lhs;whnf
 try dsimp -iota -beta -eta -zeta only
 rw[Ak]
 rw[D5 _ _ _ Aq]
 refine tq ?_
 refine tq ?_
 (simp only[KL];rfl)
theorem rZ(x y z u v w:Int)(b:List UInt8)(hb:b.length<=100000):Y E0 (.loop 122 0 2 2 [(1,.pa 0 0),(5,.sl .i64 [x,y,z,u,v,w]),(6,.i 6),(7,.i 0)] [(0,some (.var [.nm 1])),(1,some (.row 5 .u8 b))])=some (.fin (.exit 0) 3 [] [(0,some (.var [.nm 2])),(1,some (.row 5 .u8 b)),(2,some (.row 5 .u8 (b++n8 x++n8 y++n8 z++n8 u++n8 v++n8 w)))]):=by
 rw[AO];conv=>lhs;whnf
 refine tq ?_
 rw[D5 _ _ _ Aq]
 refine tq ?_
 rw[AO]
 conv=>lhs;whnf
 rw[Dp zaa]
 conv=>lhs;whnf
 rw[D8 zaf]
 conv=>lhs;whnf
 try dsimp -iota -beta -eta -zeta only
 rw[Ak]
 rw[D5 _ _ _ Aq]
 refine tq ?_
 rw[AO]
 conv=>lhs;whnf
 rw[Dp zaa]
 conv=>lhs;whnf
 rw[D8 zaf]
 conv=>lhs;whnf
 try dsimp -iota -beta -eta -zeta only
 rw[Ak]
 rw[D5 _ _ _ Aq]
 refine tq ?_
 rw[AO]
 conv=>lhs;whnf
 rw[Dp zaa]
 conv=>lhs;whnf
 rw[D8 zaf]
 conv=>lhs;whnf
 try dsimp -iota -beta -eta -zeta only
 rw[Ak]
 rw[D5 _ _ _ Aq]
 refine tq ?_
 rw[AO]
 conv=>lhs;whnf
 rw[Dp zaa]
 conv=>lhs;whnf
 rw[D8 zaf]
 conv=>lhs;whnf
 try dsimp -iota -beta -eta -zeta only
 rw[Ak]
 rw[D5 _ _ _ Aq]
 refine tq ?_
 rw[AO]
 conv=>lhs;whnf
 rw[Dp zaa]
 conv=>lhs;whnf
 rw[D8 zaf]
 conv=>lhs;whnf
 try dsimp -iota -beta -eta -zeta only
 rw[Ak]
 rw[D5 _ _ _ Aq]
 refine tq ?_
 refine tq ?_
 (simp only[KL];rfl)
theorem A3d(x:Int)(b:List UInt8)(hb:b.length<=100000):Y E0 (.call 122 [.sl .i64 [x],.pa 0 0] [.var [.nm 1],.row 5 .u8 b])=some (.ret (.tup []) [some (.var [.nm 2]),some (.row 5 .u8 b),some (.row 5 .u8 (b++n8 x))]):=by
 have e:Ap [x]=1:=zaK
 refine tq ?_
 rw[e,show Nat.add 0 [Rs.row 5 Ty.u8 b].length+1=2 from rfl,rX x b hb]
 exact tq rfl
theorem A3e(x y z:Int)(b:List UInt8)(hb:b.length<=100000):Y E0 (.call 122 [.sl .i64 [x,y,z],.pa 0 0] [.var [.nm 1],.row 5 .u8 b])=some (.ret (.tup []) [some (.var [.nm 2]),some (.row 5 .u8 b),some (.row 5 .u8 (b++n8 x++n8 y++n8 z))]):=by
 have e:Ap [x,y,z]=3:=zaK
 refine tq ?_
 rw[e,show Nat.add 0 [Rs.row 5 Ty.u8 b].length+1=2 from rfl,rY x y z b hb]
 exact tq rfl
theorem A3f(x y z u v w:Int)(b:List UInt8)(hb:b.length<=100000):Y E0 (.call 122 [.sl .i64 [x,y,z,u,v,w],.pa 0 0] [.var [.nm 1],.row 5 .u8 b])=some (.ret (.tup []) [some (.var [.nm 2]),some (.row 5 .u8 b),some (.row 5 .u8 (b++n8 x++n8 y++n8 z++n8 u++n8 v++n8 w))]):=by
 have e:Ap [x,y,z,u,v,w]=6:=zaK
 refine tq ?_
 rw[e,show Nat.add 0 [Rs.row 5 Ty.u8 b].length+1=2 from rfl,rZ x y z u v w b hb]
 exact tq rfl
theorem EZ{l:List (List UInt8)}{m:Nat}(h:∀ x∈l,x.length<=m)(i:Nat):(l.getD i []).length<=m:=by
 rw[List.getD_eq_getElem?_getD]
 cases hx:l[i]? with
 | none=>exact Nat.zero_le _
 | some x=>exact h x (List.mem_of_getElem? hx)
theorem fA(sd au:List (List UInt8))(en:List UInt8)(ac re rs ck:Int)(od:Bool)(sb:List (List (List UInt8)))(su mc:Int)(ix:List (El AL))(l1 l2 l3 l4 l5 l6:Int)(ks:List (El BR)):Y E0 (.call 52 [.agg (Rt sd au en ac re rs ck od sb su mc ix l1 l2 l3 l4 l5 l6 ks)] [])=some (.ret (.agg (Rt sd au en ac re rs ck od sb su mc ix l1 l2 l3 l4 l5 l6 ks++[.b false,.b false,.sl (.sl (.sl .u8)) [],.i 0,.i 0,.b false,.i 0,.sl sesT (List.replicate 3 (0,[],[],0,0,0,0,false)),.sl objT (List.replicate 3 ((0,0,0,[],[]),([],[],[]),0)),.sl .i64 [],.sl .i64 []])) []):=by
 have h1:Ba 3 ((0,[],[],0,0,0,0,false):El sesT)=List.replicate 3 (0,[],[],0,0,0,0,false):=zbj
 have h2:Ba 3 (((0,0,0,[],[]),([],[],[]),0):El objT)=List.replicate 3 ((0,0,0,[],[]),([],[],[]),0):=zbj
 refine tq ?_
 (rw[<-h1,<-h2];rfl)
theorem A8n(b:List UInt8)(x:El AL)(h:NQ x):Ht (Ht (Ht (BO (BQ (BO b [DI x.1,DI x.2.1,DI x.2.2.1]) 2 x.2.2.2.1) [zf x.2.2.2.2.2.2.1]) x.2.2.2.2.1) x.2.2.2.2.2.1) x.2.2.2.2.2.2.2=b++Yn x:=by
 obtain⟨-,-,h1,h2,h3,-⟩:=h
 rw[GI (Nat.le_trans h3 zad),GI (Nat.le_trans h2 zad),GI (Nat.le_trans h1 zad),U4,Am,Am,Dh,Dh,Dh,Yn]
 simp only[List.append_assoc,List.cons_append,List.nil_append]
theorem fB(x:El AL)(h:NQ x):(Yn x).length<=300:=by
 obtain⟨-,-,h1,h2,h3,-⟩:=h
 simp only[Yn,List.length_cons,List.length_append,D9,Ce];omega
theorem A8o(b:List UInt8)(x:El BR)(h:eH x):BO (Ht b x.1) [DI x.2]=b++Ri x:=by
 rw[GI (Nat.le_trans h.1 zad),Am,Dh,Ri,List.append_assoc]
theorem fC(x:El BR)(h:eH x):(Ri x).length<=300:=by
 have:=h.1
 simp only[Ri,List.length_cons,List.length_append,List.length_nil,Ce];omega
theorem Hy{α:Type}{l:List α}{j:Nat}{x:α}(h:l[j]?=some x):l.drop j=x::l.drop (j+1):=by
 obtain⟨h1,h2⟩:=List.getElem?_eq_some_iff.1 h
 rw[<-h2];exact List.drop_eq_getElem_cons h1
theorem YU(ks:List (El BR))(hl:ks.length<=8)(hx:∀ x∈ks,eH x):∀(k j:Nat) (b:List UInt8),j+k=ks.length->b.length+300*k<=60000 ->
  Y E0 (.loop 78 3 0 2 [(3,.pa 0 0),(137,.sl BR ks),(138,.i (ks.length:Int)),(139,.i (j:Int))] [(0,some (.var [.nm 1])),(1,some (.row 5 .u8 b))])
   = some (.fin (.exit 6) 2 [(3,.pa 0 0)] [(0,some (.var [.nm 1])),(1,some (.row 5 .u8 (b++(ks.drop j).flatMap Ri)))])
 | 0,j,b,hj,hb=>by
  obtain rfl:j=ks.length:=zaa
  rw[List.drop_length,List.flatMap_nil,List.append_nil]
  rw[AO];conv=>lhs;whnf
  refine tq ?_
  with_reducible rfl
 | k+1,j,b,hj,hb=>by
  obtain⟨x,hm,hg⟩:=Gp (l:=ks) (i:=(j:Int)) zaa
  have ho:=hx x hm
  have e:=A8o b x ho
  have el:=fC x ho
  have ih:=YU ks hl hx k (j+1) (b++Ri x) zaa zaC
  rw[DD] at hg
  rw[show((j+1:Nat):Int)=(j:Int)+1 from by omega,List.append_assoc,<-List.flatMap_cons,<-Hy hg,<-e] at ih
  rw[<-DD] at hg
  obtain⟨q1,-⟩:=ho
  rw[AO];conv=>lhs;whnf
  refine to ?_
  rw[hg]
  refine tq ?_
  rw[Ep _ _ Aq]
  refine tq ?_
  exact ih
theorem ry(ks:List (El BR))(hl:ks.length<=8)(hx:∀ x∈ks,eH x)(b:List UInt8)(hb:b.length<=50000):
  Y E0 (.loop 78 3 0 2 [(3,.pa 0 0),(137,.sl BR ks),(138,.i (Ap ks)),(139,.i 0)] [(0,some (.var [.nm 1])),(1,some (.row 5 .u8 b))])
   = some (.fin (.exit 6) 2 [(3,.pa 0 0)] [(0,some (.var [.nm 1])),(1,some (.row 5 .u8 (b++ks.flatMap Ri)))]):=by
 have h:=YU ks hl hx ks.length 0 b zaa zaa
 rw[AC];rw[List.drop_zero] at h;exact h
theorem Ho{α:Type}{f:α->List UInt8}{m:Nat}:∀ {l:List α},(∀ x∈l,(f x).length<=m)->(l.flatMap f).length<=m*l.length
 | [],_=>zak
 | x::l,h=>by
  have:=Ho (l:=l) fun y hy=>h y (List.mem_cons_of_mem _ hy)
  have:=h x (List.mem_cons_self ..)
  rw[List.flatMap_cons,List.length_append,List.length_cons,Nat.mul_add];omega
theorem lL(sd au:List (List UInt8))(en:List UInt8)(ac re rs ck:Int)(od:Bool)(sb:List (List (List UInt8)))(su mc:Int)(ix:List (El AL))(l1 l2 l3 l4 l5 l6:Int)(ks:List (El BR))(hs:sd.length=3)(hsm:∀ x∈sd,x.length<=1000)(b:List UInt8)(hb:b.length<=1000):
  Y E0 (.loop 78 0 0 3 [(1,.pa 0 0),(3,.pa 1 0),(16,.i 0)] [(0,some (.var (Rt sd au en ac re rs ck od sb su mc ix l1 l2 l3 l4 l5 l6 ks))),(1,some (.var [.nm 2])),(2,some (.row 5 .u8 b))])
   = some (.fin (.exit 0) 3 [(1,.pa 0 0),(3,.pa 1 0)] [(0,some (.var (Rt sd au en ac re rs ck od sb su mc ix l1 l2 l3 l4 l5 l6 ks))),(1,some (.var [.nm 2])),(2,some (.row 5 .u8 (b++bl (sd.getD 0 [])++bl (sd.getD 1 [])++bl (sd.getD 2 []))))]):=by
 have h0:=EZ hsm 0
 have h1:=EZ hsm 1
 have h2:=EZ hsm 2
 rw[<-GI (Nat.le_trans h0 zad),<-GI (Nat.le_trans h1 zad),<-GI (Nat.le_trans h2 zad)]
 rw[AO];conv=>lhs;whnf
 refine tq ?_
 rw[YT _ _ Aq Aq]
 refine tq ?_
 rw[Ep _ _ Aq]
 refine tq ?_
 refine tq ?_
 rw[YT _ _ Aq Aq]
 refine tq ?_
 rw[Ep _ _ Aq]
 refine tq ?_
 refine tq ?_
 rw[YT _ _ Aq Aq]
 refine tq ?_
 rw[Ep _ _ Aq]
 refine tq ?_
 refine tq ?_
 rfl
theorem lM(sd au:List (List UInt8))(en:List UInt8)(ac re rs ck:Int)(od:Bool)(sb:List (List (List UInt8)))(su mc:Int)(ix:List (El AL))(l1 l2 l3 l4 l5 l6:Int)(ks:List (El BR))(ha:au.length=4)(ham:∀ x∈au,x.length<=1000)(b:List UInt8)(hb:b.length<=10000):
  Y E0 (.loop 78 1 0 3 [(1,.pa 0 0),(3,.pa 1 0),(26,.i 0)] [(0,some (.var (Rt sd au en ac re rs ck od sb su mc ix l1 l2 l3 l4 l5 l6 ks))),(1,some (.var [.nm 2])),(2,some (.row 5 .u8 b))])
   = some (.fin (.exit 2) 3 [(1,.pa 0 0),(3,.pa 1 0)] [(0,some (.var (Rt sd au en ac re rs ck od sb su mc ix l1 l2 l3 l4 l5 l6 ks))),(1,some (.var [.nm 2])),(2,some (.row 5 .u8 (b++bl (au.getD 0 [])++bl (au.getD 1 [])++bl (au.getD 2 [])++bl (au.getD 3 []))))]):=by
 have h0:=EZ ham 0
 have h1:=EZ ham 1
 have h2:=EZ ham 2
 have h3:=EZ ham 3
 rw[<-GI (Nat.le_trans h0 zad),<-GI (Nat.le_trans h1 zad),<-GI (Nat.le_trans h2 zad),<-GI (Nat.le_trans h3 zad)]
 rw[AO];conv=>lhs;whnf
 refine tq ?_
 rw[YT _ _ Aq Aq]
 refine tq ?_
 rw[Ep _ _ Aq]
 refine tq ?_
 refine tq ?_
 rw[YT _ _ Aq Aq]
 refine tq ?_
 rw[Ep _ _ Aq]
 refine tq ?_
 refine tq ?_
 rw[YT _ _ Aq Aq]
 refine tq ?_
 rw[Ep _ _ Aq]
 refine tq ?_
 refine tq ?_
 rw[YT _ _ Aq Aq]
 refine tq ?_
 rw[Ep _ _ Aq]
 refine tq ?_
 refine tq ?_
 rfl
theorem Vp(sd au:List (List UInt8))(en:List UInt8)(ac re rs ck:Int)(od:Bool)(sb:List (List (List UInt8)))(su mc:Int)(ix:List (El AL))(l1 l2 l3 l4 l5 l6:Int)(ks:List (El BR))(hl:ix.length<=6)(hx:∀ x∈ix,NQ x):∀(k j:Nat) (b:List UInt8),j+k=ix.length->b.length+300*k<=50000 ->
  Y E0 (.loop 78 2 0 3 [(1,.pa 0 0),(3,.pa 1 0),(6,.fn 122 [] [.pa 1 0]),(74,.sl AL ix),(75,.i (ix.length:Int)),(76,.i (j:Int))] [(0,some (.var (Rt sd au en ac re rs ck od sb su mc ix l1 l2 l3 l4 l5 l6 ks))),(1,some (.var [.nm 2])),(2,some (.row 5 .u8 b))])
   = some (.fin (.exit 4) 3 [(1,.pa 0 0),(3,.pa 1 0),(6,.fn 122 [] [.pa 1 0])] [(0,some (.var (Rt sd au en ac re rs ck od sb su mc ix l1 l2 l3 l4 l5 l6 ks))),(1,some (.var [.nm 2])),(2,some (.row 5 .u8 (b++(ix.drop j).flatMap Yn)))])
 | 0,j,b,hj,hb=>by
  obtain rfl:j=ix.length:=zaa
  rw[List.drop_length,List.flatMap_nil,List.append_nil]
  rw[AO];conv=>lhs;whnf
  refine tq ?_
  with_reducible rfl
 | k+1,j,b,hj,hb=>by
  obtain⟨x,hm,hg⟩:=Gp (l:=ix) (i:=(j:Int)) zaa
  have ho:=hx x hm
  have e:=A8n b x ho
  have el:=fB x ho
  have ih:=Vp sd au en ac re rs ck od sb su mc ix l1 l2 l3 l4 l5 l6 ks hl hx k (j+1) (b++Yn x) zaa zaC
  rw[DD] at hg
  rw[show((j+1:Nat):Int)=(j:Int)+1 from by omega,List.append_assoc,<-List.flatMap_cons,<-Hy hg,<-e] at ih
  rw[<-DD] at hg
  obtain⟨-,-,q1,q2,q3,-⟩:=ho
  rw[AO];conv=>lhs;whnf
  refine to ?_
  rw[hg]
  refine tq ?_
  rw[D5 _ _ _ Aq]
  refine tq ?_
  rw[A3b _]
  refine tq ?_
  rw[Ep _ _ Aq]
  refine tq ?_
  rw[Ep _ _ Aq]
  refine tq ?_
  rw[Ep _ _ Aq]
  refine tq ?_
  exact ih
theorem lN(sd au:List (List UInt8))(en:List UInt8)(ac re rs ck:Int)(od:Bool)(sb:List (List (List UInt8)))(su mc:Int)(ix:List (El AL))(l1 l2 l3 l4 l5 l6:Int)(ks:List (El BR))(hl:ix.length<=6)(hx:∀ x∈ix,NQ x)(b:List UInt8)(hb:b.length<=40000):
  Y E0 (.loop 78 2 0 3 [(1,.pa 0 0),(3,.pa 1 0),(6,.fn 122 [] [.pa 1 0]),(74,.sl AL ix),(75,.i (Ap ix)),(76,.i 0)] [(0,some (.var (Rt sd au en ac re rs ck od sb su mc ix l1 l2 l3 l4 l5 l6 ks))),(1,some (.var [.nm 2])),(2,some (.row 5 .u8 b))])
   = some (.fin (.exit 4) 3 [(1,.pa 0 0),(3,.pa 1 0),(6,.fn 122 [] [.pa 1 0])] [(0,some (.var (Rt sd au en ac re rs ck od sb su mc ix l1 l2 l3 l4 l5 l6 ks))),(1,some (.var [.nm 2])),(2,some (.row 5 .u8 (b++ix.flatMap Yn)))]):=by
 have h:=Vp sd au en ac re rs ck od sb su mc ix l1 l2 l3 l4 l5 l6 ks hl hx ix.length 0 b zaa zaa
 rw[AC];rw[List.drop_zero] at h;exact h
theorem lQ(sd au:List (List UInt8))(en:List UInt8)(ac re rs ck:Int)(od:Bool)(sb:List (List (List UInt8)))(su mc:Int)(ix:List (El AL))(l1 l2 l3 l4 l5 l6:Int)(ks:List (El BR))(hR:Y E0 (.call 124 [.agg [.sl (.sl (.sl .u8)) sb,.i su]] [])=some (.ret (.sl .u8 (NS sb su)) []))(hRl:(NS sb su).length<=4000)(hs:sd.length=3)(ha:au.length=4)(hsm:∀ x∈sd,x.length<=1000)(ham:∀ x∈au,x.length<=1000)(he:en.length<=1000)(hi:ix.length<=6)(hix:∀ x∈ix,NQ x)(hk:ks.length<=8)(hkx:∀ x∈ks,eH x):Y E0 (.call 78 [.agg (Rt sd au en ac re rs ck od sb su mc ix l1 l2 l3 l4 l5 l6 ks)] [])=some (.ret (.sl .u8 (encS sd au en ac re rs ck od sb su mc ix l1 l2 l3 l4 l5 l6 ks)) []):=by
 have h0:=EZ hsm 0
 have h1:=EZ hsm 1
 have h2:=EZ hsm 2
 have h3:=EZ ham 0
 have h4:=EZ ham 1
 have h5:=EZ ham 2
 have h6:=EZ ham 3
 have hF:(List.flatMap Yn ix).length<=1800:=Nat.le_trans (Ho (m:=300) fun x hx=>fB x (hix x hx)) zaa
 have hK:(List.flatMap Ri ks).length<=2400:=Nat.le_trans (Ho (m:=300) fun x hx=>fC x (hkx x hx)) zaa
 refine tq ?_
 rw[lL (hs:=hs) (hsm:=hsm) (b:=[UInt8.ofNat 1,DI ac]) (hb:=zak)]
 refine tq ?_
 rw[lM _ _ _ _ _ _ _ _ _ _ _ _ _ _ _ _ _ _ _ zaa zaa _ zaf]
 refine tq ?_
 rw[Ep _ _ zaf]
 refine tq ?_
 rw[A3e _ _ _ _ zaf]
 refine tq ?_
 rw[A3b _]
 conv=>lhs;whnf
 rw[Dx zaf]
 conv=>lhs;whnf
 try dsimp -iota -beta -eta -zeta only
 rw[drw zaj];conv=>lhs;whnf
 try dsimp -iota -beta -eta -zeta only
 rw[Ak]
 rw[hR]
 refine tq ?_
 rw[Ep _ _ zaf]
 refine tq ?_
 rw[A3d _ _ zaf]
 conv=>lhs;whnf
 rw[Dx zaf]
 conv=>lhs;whnf
 try dsimp -iota -beta -eta -zeta only
 rw[EQ]
 rw[lN _ _ _ _ _ _ _ _ _ _ _ _ _ _ _ _ _ _ _ zaa zaa _ zaf]
 refine tq ?_
 rw[A3f _ _ _ _ _ _ _ zaf]
 conv=>lhs;whnf
 rw[Dx zaf]
 conv=>lhs;whnf
 rw[AO]
 conv=>lhs;whnf
 try dsimp -iota -beta -eta -zeta only
 rw[EQ]
 rw[ry ks hk hkx _ zaf]
 refine tq ?_
 (delta encS;simp only[Am,AC,Dh,GI (show en.length<=65535 by omega),GI (show(NS sb su).length<=65535 by omega),show UInt8.ofNat 1=1 from rfl])
theorem fD(sd au:List (List UInt8))(en:List UInt8)(ac re rs ck:Int)(od:Bool)(su mc:Int)(ix:List (El AL))(l1 l2 l3 l4 l5 l6:Int)(ks:List (El BR))(hs:sd.length=3)(ha:au.length=4)(hsm:∀ x∈sd,x.length<=1000)(ham:∀ x∈au,x.length<=1000)(he:en.length<=1000)(hi:ix.length<=6)(hix:∀ x∈ix,NQ x)(hk:ks.length<=8)(hkx:∀ x∈ks,eH x):Y E0 (.call 78 [.agg (Rt sd au en ac re rs ck od [] su mc ix l1 l2 l3 l4 l5 l6 ks)] [])=some (.ret (.sl .u8 (encS sd au en ac re rs ck od [] su mc ix l1 l2 l3 l4 l5 l6 ks)) []):=by
 have hR:=lK su
 rw[<-Vl] at hR
 exact lQ sd au en ac re rs ck od [] su mc ix l1 l2 l3 l4 l5 l6 ks hR (by rw[Vl,List.length_cons,Bq];decide) hs ha hsm ham he hi hix hk hkx
theorem aK(sd au:List (List UInt8))(en:List UInt8)(ac re rs ck:Int)(od:Bool)(sb:List (List (List UInt8)))(su mc:Int)(ix:List (El AL))(l1 l2 l3 l4 l5 l6:Int)(ks:List (El BR))(hR:(NS sb su).length<=4000)(h:stOK sd au en ac re rs ck su mc ix l1 l2 l3 l4 l5 l6 ks):(encS sd au en ac re rs ck od sb su mc ix l1 l2 l3 l4 l5 l6 ks).length<=30000:=by
 have h0:=EZ h.sm 0
 have h1:=EZ h.sm 1
 have h2:=EZ h.sm 2
 have h3:=EZ h.am 0
 have h4:=EZ h.am 1
 have h5:=EZ h.am 2
 have h6:=EZ h.am 3
 have hF:(List.flatMap Yn ix).length<=1800:=Nat.le_trans (Ho (m:=300) fun x hx=>fB x (h.im x hx)) (by have:=h.il;omega)
 have hK:(List.flatMap Ri ks).length<=2400:=Nat.le_trans (Ho (m:=300) fun x hx=>fC x (h.km x hx)) (by have:=h.kl;omega)
 have he:=h.en
 delta encS
 simp only[List.length_append,List.length_cons,List.length_nil,Ce,Bq]
 omega
end
end Go.Proofs.YtanagnimhaemgaaGreatDoor
