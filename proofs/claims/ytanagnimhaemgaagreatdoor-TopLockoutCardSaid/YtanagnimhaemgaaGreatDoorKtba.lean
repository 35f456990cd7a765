/-
  Own texts, laid together for this claim: contracts of functions of the program and its references, used by the statements of this seat.
-/
import Derived.Test.YtanagnimhaemgaaGreatDoorKtac
import Derived.Test.YtanagnimhaemgaaGreatDoorKtad
import Derived.Test.YtanagnimhaemgaaGreatDoorKtaf
import Derived.Test.YtanagnimhaemgaaGreatDoorKtag
import Derived.Test.YtanagnimhaemgaaGreatDoorKtah
import Derived.Test.YtanagnimhaemgaaGreatDoorKtaj
import Derived.Test.YtanagnimhaemgaaGreatDoorKtak
import Derived.Test.YtanagnimhaemgaaGreatDoorKtal
import Derived.Test.YtanagnimhaemgaaGreatDoorKtan
import Derived.Test.YtanagnimhaemgaaGreatDoorKtao
import Derived.Test.YtanagnimhaemgaaGreatDoorKtas
import Derived.Test.YtanagnimhaemgaaGreatDoorKtat
import Derived.Test.YtanagnimhaemgaaGreatDoorKtau
import Derived.Test.YtanagnimhaemgaaGreatDoorKtav
import Derived.Test.YtanagnimhaemgaaGreatDoorKtaw
import Derived.Test.YtanagnimhaemgaaGreatDoorKtay
import Derived.Test.YtanagnimhaemgaaGreatDoorKtaz
set_option linter.all false
set_option maxHeartbeats 40000000
set_option maxRecDepth 100000
namespace Go.Ax
open Go Go.Eng Go.RowKit
variable {r f r' f':Int}{od od':Bool}(s0 s1 s2:List UInt8)(t:Nat)(en:List UInt8)
def JU(t:Nat)(l l':List UInt8):List UInt8:=l.take t++l'.drop t
theorem Yd(X X' l l':List UInt8)(h:X.length=X'.length):JU t (X++l) (X'++l')=JU t X X'++JU (t-X.length) l l':=by
 unfold JU
 rw[List.take_append,List.drop_append,<-h]
 rcases Nat.le_total t X.length with ht|ht
 ·rw[Nat.sub_eq_zero_of_le ht];simp
 ·rw[List.drop_of_length_le (l:=X') zaa];simp
theorem ik(X:List UInt8):JU t X X=X:=by unfold JU;exact List.take_append_drop t X
theorem Sr(X l l':List UInt8):JU t (X++l) (X++l')=X++JU (t-X.length) l l':=by rw[Yd t X X l l' rfl,ik]
theorem Su(a a':UInt8)(l l':List UInt8):∃ x,(x=a\/x=a')/\JU t (a::l) (a'::l')=x::JU (t-1) l l':=by
 cases t with
 | zero=>exact⟨a',.inr rfl,by simp[JU]⟩
 | succ t=>exact⟨a,.inl rfl,by simp[JU]⟩
theorem A3F(X X':List UInt8)(h:X.length=X'.length):(JU t X X').length=X.length:=by
 unfold JU;rw[List.length_append,List.length_take,List.length_drop];omega
def z7:List UInt8:=[0,0,0,0,0,0,0]
theorem A5M:∀ k:Fin 256,n8 ((k.val:Nat):Int)=z7++[UInt8.ofInt ((k.val:Nat):Int)]:=zaz
theorem A17:∀ k:Fin 256,(UInt8.ofInt ((k.val:Nat):Int)).toNat=k.val:=zaz
theorem PE{x:Int}(h:0<=x/\x<=255):n8 x=z7++[UInt8.ofInt x]:=by
 have:=A5M ⟨x.toNat,by omega⟩
 simpa [Int.toNat_of_nonneg h.1] using this
def lkP(sd0 sd1 sd2 en:List UInt8):List UInt8:=[1,2]++bl sd0++bl sd1++bl sd2++bl []++bl []++bl []++bl []++bl en++z7
def lkM:List UInt8:=n8 0++n8 0
def lkN:List UInt8:=bl (A2z [] 0)++n8 0++[0]++z7
def lkS:List UInt8:=n8 5++n8 100++n8 0++n8 0++n8 1000++[0]
def Ye(s0 s1 s2 en:List UInt8)(r f:Int)(od:Bool):List UInt8:=encS [s0,s1,s2] [[],[],[],[]] en 2 r 0 0 od [] 0 0 [] f 5 100 0 0 1000 []
theorem X4(od:Bool)(hr:0<=r/\r<=255)(hf:0<=f/\f<=255):Ye s0 s1 s2 en r f od=lkP s0 s1 s2 en++(UInt8.ofInt r::(lkM++(We od::(lkN++(UInt8.ofInt f::lkS))))):=by
 unfold Ye encS lkP lkM lkN lkS
 rw[PE hr,PE hf]
 simp only[List.getD_cons_zero,List.getD_cons_succ,List.flatMap_nil,List.length_nil,List.append_assoc,List.cons_append,List.nil_append,List.append_nil]
 rfl
theorem qZ(h0:s0.length=32)(h1:s1.length=32)(h2:s2.length=32)(h3:en.length=32)(r f:Int)(od:Bool):(Ye s0 s1 s2 en r f od).length=240:=by
 unfold Ye encS
 simp only[List.getD_cons_zero,List.getD_cons_succ,List.flatMap_nil,List.length_append,List.length_cons,List.length_nil,Cc,Bo,h0,h1,h2,h3,pz]
theorem A81(t:Nat)(hr:0<=r/\r<=255)(hf:0<=f/\f<=255)(hr':0<=r'/\r'<=255)(hf':0<=f'/\f'<=255):∃ r2 f2 od2,(r2=r\/r2=r')/\(f2=f\/f2=f')/\JU t (Ye s0 s1 s2 en r f od) (Ye s0 s1 s2 en r' f' od')=Ye s0 s1 s2 en r2 f2 od2:=by
 rw[X4 s0 s1 s2 en od hr hf,X4 s0 s1 s2 en od' hr' hf',Sr]
 obtain⟨x,hx,e1⟩:=Su (t-(lkP s0 s1 s2 en).length) (UInt8.ofInt r) (UInt8.ofInt r') (lkM++(We od::(lkN++(UInt8.ofInt f::lkS)))) (lkM++(We od'::(lkN++(UInt8.ofInt f'::lkS))))
 rw[e1,Sr]
 obtain⟨y,hy,e2⟩:=Su (t-(lkP s0 s1 s2 en).length-1-lkM.length) (We od) (We od') (lkN++(UInt8.ofInt f::lkS)) (lkN++(UInt8.ofInt f'::lkS))
 rw[e2,Sr]
 obtain⟨z,hz,e3⟩:=Su (t-(lkP s0 s1 s2 en).length-1-lkM.length-1-lkN.length) (UInt8.ofInt f) (UInt8.ofInt f') lkS lkS
 rw[e3,ik]
 obtain⟨r2,hr2,hrx,hrb⟩:∃ r2,(r2=r\/r2=r')/\x=UInt8.ofInt r2/\(0<=r2/\r2<=255):=by
  rcases hx with h|h
  ·exact⟨r,.inl rfl,h,hr⟩
  ·exact⟨r',.inr rfl,h,hr'⟩
 obtain⟨f2,hf2,hfx,hfb⟩:∃ f2,(f2=f\/f2=f')/\z=UInt8.ofInt f2/\(0<=f2/\f2<=255):=by
  rcases hz with h|h
  ·exact⟨f,.inl rfl,h,hf⟩
  ·exact⟨f',.inr rfl,h,hf'⟩
 obtain⟨od2,hyx⟩:∃ od2,y=We od2:=by
  rcases hy with h|h
  ·exact⟨od,h⟩
  ·exact⟨od',h⟩
 refine⟨r2,f2,od2,hr2,hf2,?_⟩
 rw[X4 s0 s1 s2 en od2 hrb hfb,hrx,hfx,hyx]
theorem A5O(hr:0<=r/\r<=255)(hf:0<=f/\f<=255)(hr':0<=r'/\r'<=255)(hf':0<=f'/\f'<=255)(h:r≠r'\/f≠f'):Ye s0 s1 s2 en r f od≠Ye s0 s1 s2 en r' f' od':=by
 intro e
 rw[X4 s0 s1 s2 en od hr hf,X4 s0 s1 s2 en od' hr' hf'] at e
 have e1:=List.append_cancel_left e
 simp only[List.cons.injEq] at e1
 have e2:=List.append_cancel_left e1.2
 simp only[List.cons.injEq] at e2
 have e3:=List.append_cancel_left e2.2
 simp only[List.cons.injEq] at e3
 have inj:∀ {a b:Int},0<=a/\a<=255->0<=b/\b<=255->UInt8.ofInt a=UInt8.ofInt b->a=b:=by
  intro a b ha hb hab
  have h1:=A17 ⟨a.toNat,by omega⟩
  have h2:=A17 ⟨b.toNat,by omega⟩
  simp only[Int.toNat_of_nonneg ha.1,Int.toNat_of_nonneg hb.1] at h1 h2
  rw[hab,h2] at h1
  omega
 rcases h with h|h
 ·exact h (inj hr hr' e1.1)
 ·exact h (inj hf hf' e3.1)
theorem A82(h0:s0.length=32)(h1:s1.length=32)(h2:s2.length=32)(h3:en.length=32){q:Int}(t:Nat)(hq:2<=q/\q<=200)(hr:0<=r/\r<=255)(hf:0<=f/\f<=255)(hr':0<=r'/\r'<=255)(hf':0<=f'/\f'<=255):∃ s v r2 f2 od2,s.length=32/\(v=q+1\/v=q-1)/\(r2=r\/r2=r')/\(f2=f\/f2=f')/\JU t (Gv (q+1) (Ye s0 s1 s2 en r f od)) (Gv (q-1) (Ye s0 s1 s2 en r' f' od'))=s++n8 v++n4 ((Ye s0 s1 s2 en r2 f2 od2).length:Int)++Ye s0 s1 s2 en r2 f2 od2:=by
 have l1:=fun a b c=>qZ s0 s1 s2 en h0 h1 h2 h3 a b c
 unfold Gv
 simp only[l1,List.append_assoc]
 rw[Yd _ _ _ _ _ (by rw[Bg,Bg]),PE (x:=q+1) zaa,PE (x:=q-1) zaa,List.append_assoc,List.append_assoc,Sr,List.singleton_append,List.singleton_append]
 obtain⟨x,hx,e1⟩:=Su (t-(Lj (q+1) (Ye s0 s1 s2 en r f od)).length-z7.length) (UInt8.ofInt (q+1)) (UInt8.ofInt (q-1)) (n4 ((240:Nat):Int)++Ye s0 s1 s2 en r f od) (n4 ((240:Nat):Int)++Ye s0 s1 s2 en r' f' od')
 rw[e1,Sr]
 obtain⟨r2,f2,od2,hr2,hf2,e2⟩:=A81 s0 s1 s2 en (od:=od) (od':=od') (t-(Lj (q+1) (Ye s0 s1 s2 en r f od)).length-z7.length-1-(n4 ((240:Nat):Int)).length) hr hf hr' hf'
 rw[e2]
 obtain⟨v,hv,hvx,hvb⟩:∃ v,(v=q+1\/v=q-1)/\x=UInt8.ofInt v/\(0<=v/\v<=255):=by
  rcases hx with h|h
  ·exact⟨_,.inl rfl,h,by omega⟩
  ·exact⟨_,.inr rfl,h,by omega⟩
 refine⟨JU t (Lj (q+1) (Ye s0 s1 s2 en r f od)) (Lj (q-1) (Ye s0 s1 s2 en r' f' od')),v,r2,f2,od2,(A3F _ _ _ (by rw[Bg,Bg])).trans (Bg _ _),hv,hr2,hf2,?_⟩
 rw[PE hvb,hvx]
 simp only[List.append_assoc,List.singleton_append]
end Go.Ax
namespace Go.Proofs.YtanagnimhaemgaaGreatDoor
open Go Go.Ax Go.Eng
variable (ar:List (List UInt8))(h wr a cu:Int)(n:Nat)(to:Int)(data old:List UInt8)(nx loc:Int)(sd0 au0:List (List UInt8))(en0:List UInt8)(ac0 re0 rs0 ck0:Int)(od0:Bool)(su0 mc0:Int)(ix0:List (El AB))(l10 l20 l30 l40 l50 l60:Int)(ks0:List (El BP))(st0 sp0:Bool)(rb0:List (List (List UInt8)))(ru0 vc0:Int)(sf0:Bool)(dr0:Int)(ss0:List (El sesT))(ob0:List (El objT))(rl0 wl0:List Int)(sd au:List (List UInt8))(en:List UInt8)(ac re rs ck:Int)(od:Bool)(su mc:Int)(ix:List (El AB))(l1 l2 l3 l4 l5 l6:Int)(ks:List (El BP))(st sp:Bool)(rb:List (List (List UInt8)))(ru vc:Int)(sf:Bool)(dr:Int)(ss:List (El sesT))(ob:List (El objT))(rl wl:List Int)
structure rqG (c nb:Int) (hs:List Int) (az:List (El AL)) (is:List Int) (bs:List (List UInt8)):Prop where
 sh:Y E0 (.call 158 [.i c] [])=some (.ret (.tup [.i (hs.length:Int),.i (az.length:Int),.i (is.length:Int),.i nb,.b true]) [])
 ct:Y E0 (.call 159 [.i (bs.length:Int),.i nb] [])=some (.ret (.b true) [])
 rs:Y E0 (.call 125 [.i c] [])=some (.ret (.tup [.agg [.i (hs.length:Int),.i (az.length:Int),.i (is.length:Int),.i nb],.b true]) [])
 rc:Y E0 (.call 126 [.i nb,.i (bs.length:Int)] [])=some (.ret (.b true) [])
 cb:0<=c/\c<=255
 hl:hs.length<=10
 al:az.length<=10
 il:is.length<=10
 bl:bs.length<=10
 hm:∀ x∈hs,0<=x/\x<=65535
 am:∀ x∈az,((0:Int)<=x.1/\(x.1:Int)<=65535)/\x.2.1.length<=128/\x.2.2.length<=128
 im:∀ x∈is,0<=x/\x<=1099511627776
 bm:∀ x∈bs,x.length<=1024
 ln:(Gn c hs az is bs).length<=2048
structure rpG (e:Int) (is:List Int) (bs ns:List (List UInt8)):Prop where
 er:e=0\/(0<e/\e<=255)/\is=[]/\bs=[]/\ns=[]
 il:is.length<=10
 bl:bs.length<=10
 nl:ns.length<=10
 im:∀ x∈is,0<=x/\x<9223372036854775808
 bm:∀ x∈bs,x.length<=1024
 nm:∀ x∈ns,x.length<=1024
theorem Wy(c nb:Int)(hs:List Int)(az:List (El AL))(qi:List Int)(qb:List (List UInt8))(e:Int)(is:List Int)(bs ns:List (List UInt8))(hq:rqG c nb hs az qi qb)(hp:rpG e is bs ns)(h0:stOK sd0 au0 en0 ac0 re0 rs0 ck0 su0 mc0 ix0 l10 l20 l30 l40 l50 l60 ks0)(h1:stOK sd au en ac re rs ck su mc ix l1 l2 l3 l4 l5 l6 ks)(har:Q5 ar (nx-1) (encS sd0 au0 en0 ac0 re0 rs0 ck0 od0 [] su0 mc0 ix0 l10 l20 l30 l40 l50 l60 ks0))(hw:0<=wr/\wr<=nx)(hn:nx<=800000)(hx:Y E0 (.call 131 [.agg [.sl (.sl .u8) sd0,.sl (.sl .u8) au0,.sl .u8 en0,.i ac0,.i re0,.i rs0,.i ck0,.b od0,.sl (.sl (.sl .u8)) [],.i su0,.i mc0,.sl AB ix0,.i l10,.i l20,.i l30,.i l40,.i l50,.i l60,.sl BP ks0,.b st0,.b sp0,.sl (.sl (.sl .u8)) rb0,.i ru0,.i vc0,.b sf0,.i dr0,.sl sesT ss0,.sl objT ob0,.sl .i64 rl0,.sl .i64 wl0],.i loc,rq c hs az qi qb] [])=some (.ret (.tup [.agg [.sl (.sl .u8) sd,.sl (.sl .u8) au,.sl .u8 en,.i ac,.i re,.i rs,.i ck,.b od,.sl (.sl (.sl .u8)) [],.i su,.i mc,.sl AB ix,.i l1,.i l2,.i l3,.i l4,.i l5,.i l6,.sl BP ks,.b st,.b sp,.sl (.sl (.sl .u8)) rb,.i ru,.i vc,.b sf,.i dr,.sl sesT ss,.sl objT ob,.sl .i64 rl,.sl .i64 wl],Jw e is bs ns]) [])):
  ∃ ar' wr' nx',Q5 ar' (nx'-1) (encS sd au en ac re rs ck od [] su mc ix l1 l2 l3 l4 l5 l6 ks)/\0<=wr'/\wr'<=nx'/\nx'<=nx+1/\(encS sd au en ac re rs ck od [] su mc ix l1 l2 l3 l4 l5 l6 ks=encS sd0 au0 en0 ac0 re0 rs0 ck0 od0 [] su0 mc0 ix0 l10 l20 l30 l40 l50 l60 ks0->nx'=nx)/\Y E0 (.call 13 [Gm ar wr 0 to false sd0 au0 en0 ac0 re0 rs0 ck0 od0 [] su0 mc0 ix0 l10 l20 l30 l40 l50 l60 ks0 st0 sp0 rb0 ru0 vc0 sf0 dr0 ss0 ob0 rl0 wl0 true nx,.i loc,rq c hs az qi qb] [])=some (.ret (.tup [Gm ar' wr' 0 to false sd au en ac re rs ck od [] su mc ix l1 l2 l3 l4 l5 l6 ks st sp rb ru vc sf dr ss ob rl wl true nx',Jw e is bs ns,.b true]) []):=by
 obtain⟨ar',wr',nx',k1,k2,k3,k4,k5,hc⟩:=um ar wr to nx sd0 au0 en0 ac0 re0 rs0 ck0 od0 su0 mc0 ix0 l10 l20 l30 l40 l50 l60 ks0 st0 sp0 rb0 ru0 vc0 sf0 dr0 ss0 ob0 rl0 wl0 sd au en ac re rs ck od su mc ix l1 l2 l3 l4 l5 l6 ks st sp rb ru vc sf dr ss ob rl wl h0 h1 har hw hn
 refine⟨ar',wr',nx',k1,k2,k3,k4,k5,?_⟩
 have hen:=qR c nb hs az qi qb hq.rs hq.rc hq.hl hq.al hq.il hq.bl hq.hm hq.am hq.im hq.bm hq.ln
 have hd:=iF c nb hs az qi qb hq.cb hq.sh hq.ct hq.hl hq.al hq.il hq.bl hq.hm hq.am hq.im hq.bm hq.ln
 have hr:Y E0 (.call 130 [Jw e is bs ns] [])=some (.ret (.sl .u8 (Gi e is bs ns)) []):=by
  rcases hp.er with rfl|⟨h,rfl,rfl,rfl⟩
  ·exact A0x is bs ns hp.il hp.bl hp.nl hp.bm hp.nm
  ·exact iG e [] [] [] zaa
 have hdr:Y E0 (.call 40 [.sl .u8 (Gi e is bs ns)] [])=some (.ret (.tup [Jw e is bs ns,.i 0]) []):=by
  rcases hp.er with rfl|⟨h,rfl,rfl,rfl⟩
  ·exact A49 is bs ns hp.il hp.bl hp.nl hp.im hp.bm hp.nm
  ·exact A0y e [] [] [] h
 have hrun:=A12 sd0 au0 en0 ac0 re0 rs0 ck0 od0 su0 mc0 ix0 l10 l20 l30 l40 l50 l60 ks0 st0 sp0 rb0 ru0 vc0 sf0 dr0 ss0 ob0 rl0 wl0 sd au en ac re rs ck od su mc ix l1 l2 l3 l4 l5 l6 ks st sp rb ru vc sf dr ss ob rl wl loc c hs az qi qb e (Gn c hs az qi qb) is bs ns hd hx hr
 have hsn:=qU ar ar' wr to nx wr' nx' loc sd0 au0 en0 ac0 re0 rs0 ck0 od0 su0 mc0 ix0 l10 l20 l30 l40 l50 l60 ks0 st0 sp0 rb0 ru0 vc0 sf0 dr0 ss0 ob0 rl0 wl0 sd au en ac re rs ck od su mc ix l1 l2 l3 l4 l5 l6 ks st sp rb ru vc sf dr ss ob rl wl (Gn c hs az qi qb) (Gi e is bs ns) hrun hc
 exact A13 ar ar' wr to nx wr' nx' loc sd0 au0 en0 ac0 re0 rs0 ck0 od0 su0 mc0 ix0 l10 l20 l30 l40 l50 l60 ks0 st0 sp0 rb0 ru0 vc0 sf0 dr0 ss0 ob0 rl0 wl0 sd au en ac re rs ck od su mc ix l1 l2 l3 l4 l5 l6 ks st sp rb ru vc sf dr ss ob rl wl c hs az qi qb (Gn c hs az qi qb) (Gi e is bs ns) e is bs ns hen hsn hdr
section
attribute [local irreducible] Bl CS CU CJ Bh Ak CV Du EN E5 EH Be BN CE Bz and' CG CO BC Ag Ar BF BG AY Aa AP AX CW Dv CX DT C9 BJ BD BA BB Au AQ Az Ac Aw Ah CY BL Bi BR BI CB CZ CP fits Cb CQ A8 AA AZ
attribute [local irreducible] BK encS
theorem A5P{old data:List UInt8}{n:Nat}(h:(n:Int)<(old.length:Int)):BI (List.take ((n:Int)).toNat data) (List.take (Aw old-(n:Int)).toNat (List.drop ((n:Int)).toNat old))=JU n data old:=by
 rw[Ap,AC,Int.toNat_natCast,JU,List.take_of_length_le (l:=List.drop n old) zaK]
theorem A3G{old data:List UInt8}{n:Nat}(h:(old.length:Int)<=(n:Int)):List.take ((n:Int)).toNat data=JU n data old:=by
 rw[Int.toNat_natCast,JU,List.drop_of_length_le zaa,List.append_nil]
theorem iq(data:List UInt8)(n:Nat)(h:n<=data.length)(hd:data.length<=1000000)(ho:old.length<=1000000):Y E0 (.call 154 [.sl .u8 old,.i (n:Int),.pa 0 0,.pa 1 0] [.var [.sl .u8 data],.var [.b true]])=some (.ret (.sl .u8 (JU n data old)) [some (.var [.sl .u8 data]),some (.var [.b true])]):=by
 refine tq ?_
 rcases DU (↑n) (↑old.length) with hc0|hc0
 ·
  rw[Dn zav]
  conv=>lhs;whnf
  refine tq ?_
  rw[A5P hc0]
 rw[Iw zav]
 conv=>lhs;whnf
 refine tq ?_
 rw[A3G hc0]
theorem vH(hl:ar.length<=1000)(ha:0<=a/\a<ar.length)(hg:Ah ar a=some old)(hw:0<=wr/\wr<=1000000)(hd:data.length<=65536)(ho:old.length<=65536)(hn:n<=data.length):Y E0 (.call 153 [.agg [.sl (.sl .u8) ar,.i wr,.i (wr+1),.i (n:Int),.b false],.i a,.sl .u8 data,.fn 154 [] [.pa 0 0,.pa 1 0]] [.var [.sl .u8 data],.var [.b true]])=some (.ret (.tup [.agg [.sl (.sl .u8) (BL ar a (JU n data old)),.i (wr+1),.i (wr+1),.i (n:Int),.b true],.i 29]) [some (.var [.sl .u8 data]),some (.var [.b true])]):=by
 have h1:Aw (BR (Aw ar) ([]:List UInt8))=(ar.length:Int):=by rw[FO,AC,AC];simp
 have he:BR (Aw ar) ([]:List UInt8)=ar.take 0++List.replicate ar.length []:=by rw[FO,AC];simp
 have hl:=O7 ar hl (wr+1) (wr+1) n a n 29 true true data ar.length 0 zaa
 rw[show((0:Nat):Int)=0 from rfl,<-he] at hl
 have hw:=iq old data n hn zaa zaa
 have hm:min (max (n:Int) 0) (Aw data)=(n:Int):=by rw[AC];omega
 refine tq ?_
 rw[UA _ _ _ _ _ _ Am Am]
 conv=>lhs;whnf
 rw[DJ];conv=>lhs;whnf
 rw[Iw zav]
 conv=>lhs;whnf
 rw[D7 zaa]
 rw[Ep zaa]
 conv=>lhs;whnf
 rw[AU]
 conv=>lhs;whnf
 rw[hm]
 refine tq ?_
 rw[h1,hl]
 refine tq ?_
 rw[hg]
 refine tq ?_
 rw[hw]
 refine tq ?_
 rw[hg]
 exact tq rfl
theorem iw(hl:ar.length<=1000)(ha:0<=a/\a<ar.length)(hg:Ah ar a=some old)(hw:0<=wr/\wr<=1000000)(hd:data.length<=65536)(ho:old.length<=65536)(hn:n<=data.length):Y E0 (.call 119 [.agg [.sl (.sl .u8) ar,.i wr,.i (wr+1),.i (n:Int),.b false],.i a,.sl .u8 data] [])=some (.ret (.tup [.agg [.sl (.sl .u8) (BL ar a (JU n data old)),.i (wr+1),.i (wr+1),.i (n:Int),.b true],.i 29]) []):=by
 have h:=vH ar wr a n data old hl ha hg hw hd ho hn
 have hi:Du (wr+1) (wr+1)=true:=Ep rfl
 rw[AU]
 conv=>lhs;whnf
 rw[DJ];conv=>lhs;whnf
 try dsimp -iota -beta -eta -zeta only
 rw[D7 zaa]
 rw[Aj]
 rw[hi,h]
 exact tq rfl
theorem Zw(q:Int)(n:Nat)(p old:List UInt8)(hl:ar.length<=1000)(ha:2<=ar.length)(hg:Ah ar (q%2)=some old)(hw:0<=wr/\wr<=1000000)(hp:p.length<=60000)(ho:old.length<=60000)(hn:n<=44+p.length)(hq:1<=q/\q<=1000000):Y E0 (.call 76 [.agg [.sl (.sl .u8) ar,.i wr,.i (wr+1),.i (n:Int),.b false],.i 0,.i q,.sl .u8 p] [])=some (.ret (.tup [.agg [.sl (.sl .u8) (BL ar (q%2) (JU n (Gv q p) old)),.i (wr+1),.i (wr+1),.i (n:Int),.b true],.i 29]) []):=by
 have hr:=Cm q p
 have h:=iw ar wr (q%2) n (Gv q p) old hl zaa hg hw zaa zaa zaa
 have e1:BI (BH (BH (Lj q p) 8 q) 4 (Aw p)) p=Gv q p:=by rw[Gv,Kv,pq,Ap,AC]
 refine tq ?_
 rw[Po]
 refine tq ?_
 rw[SN _ _ Am]
 refine tq ?_
 rw[DN _ _ _ zav]
 refine tq ?_
 rw[DN _ _ _ zav]
 conv=>lhs;whnf
 try dsimp -iota -beta -eta -zeta only
 rw[JK zaa]
 conv=>lhs;whnf
 rw[EF zav]
 conv=>lhs;whnf
 try dsimp -iota -beta -eta -zeta only
 rw[O3 zaa]
 rw[D7 zaa]
 rw[Aj]
 rw[Int.zero_add,e1,h]
 exact tq rfl
theorem iy(n:Nat)(old:List UInt8)(sd0:List (List UInt8))(au0:List (List UInt8))(en0:List UInt8)(ac0:Int)(re0:Int)(rs0:Int)(ck0:Int)(od0:Bool)(su0:Int)(mc0:Int)(ix0:List (El AB))(l10:Int)(l20:Int)(l30:Int)(l40:Int)(l50:Int)(l60:Int)(ks0:List (El BP))(st0:Bool)(sp0:Bool)(rb0:List (List (List UInt8)))(ru0:Int)(vc0:Int)(sf0:Bool)(dr0:Int)(ss0:List (El sesT))(ob0:List (El objT))(rl0:List Int)(wl0:List Int)(sd:List (List UInt8))(au:List (List UInt8))(en:List UInt8)(ac:Int)(re:Int)(rs:Int)(ck:Int)(od:Bool)(su:Int)(mc:Int)(ix:List (El AB))(l1:Int)(l2:Int)(l3:Int)(l4:Int)(l5:Int)(l6:Int)(ks:List (El BP))(st:Bool)(sp:Bool)(rb:List (List (List UInt8)))(ru:Int)(vc:Int)(sf:Bool)(dr:Int)(ss:List (El sesT))(ob:List (El objT))(rl:List Int)(wl:List Int)(h0:stOK sd0 au0 en0 ac0 re0 rs0 ck0 su0 mc0 ix0 l10 l20 l30 l40 l50 l60 ks0)(h1:stOK sd au en ac re rs ck su mc ix l1 l2 l3 l4 l5 l6 ks)(he:encS sd au en ac re rs ck od [] su mc ix l1 l2 l3 l4 l5 l6 ks≠encS sd0 au0 en0 ac0 re0 rs0 ck0 od0 [] su0 mc0 ix0 l10 l20 l30 l40 l50 l60 ks0)(hl:2<=ar.length/\ar.length<=1000)(hg:Ah ar (nx%2)=some old)(ho:old.length<=60000)(hnl:n<=44+(encS sd au en ac re rs ck od [] su mc ix l1 l2 l3 l4 l5 l6 ks).length)(hw:0<=wr/\wr<=900000)(hn:1<=nx/\nx<=900000):Y E0 (.call 82 [Gm ar wr (wr+1) (n:Int) false sd0 au0 en0 ac0 re0 rs0 ck0 od0 [] su0 mc0 ix0 l10 l20 l30 l40 l50 l60 ks0 st0 sp0 rb0 ru0 vc0 sf0 dr0 ss0 ob0 rl0 wl0 true nx,.agg [.sl (.sl .u8) sd,.sl (.sl .u8) au,.sl .u8 en,.i ac,.i re,.i rs,.i ck,.b od,.sl (.sl (.sl .u8)) [],.i su,.i mc,.sl AB ix,.i l1,.i l2,.i l3,.i l4,.i l5,.i l6,.sl BP ks,.b st,.b sp,.sl (.sl (.sl .u8)) rb,.i ru,.i vc,.b sf,.i dr,.sl sesT ss,.sl objT ob,.sl .i64 rl,.sl .i64 wl]] [])=some (.ret (.tup [lI (BL ar (nx%2) (JU n (Gv nx (encS sd au en ac re rs ck od [] su mc ix l1 l2 l3 l4 l5 l6 ks)) old)) (wr+1) (wr+1) (n:Int) true false nx,.i 29]) []):=by
 have e0:=Kw sd0 au0 en0 ac0 re0 rs0 ck0 od0 su0 mc0 ix0 l10 l20 l30 l40 l50 l60 ks0 h0.sl h0.al h0.sm h0.am h0.en h0.il h0.im h0.kl h0.km
 have e1:=Kw sd au en ac re rs ck od su mc ix l1 l2 l3 l4 l5 l6 ks h1.sl h1.al h1.sm h1.am h1.en h1.il h1.im h1.kl h1.km
 have hl1:=Lp sd au en ac re rs ck od su mc ix l1 l2 l3 l4 l5 l6 ks h1
 have hl0:=Lp sd0 au0 en0 ac0 re0 rs0 ck0 od0 su0 mc0 ix0 l10 l20 l30 l40 l50 l60 ks0 h0
 generalize encS sd au en ac re rs ck od [] su mc ix l1 l2 l3 l4 l5 l6 ks=p1 at *
 generalize encS sd0 au0 en0 ac0 re0 rs0 ck0 od0 [] su0 mc0 ix0 l10 l20 l30 l40 l50 l60 ks0=p0 at *
 have ec:=Zw ar wr nx n p1 old hl.2 hl.1 hg zaa zaa ho hnl zaa
 refine tq ?_
 rw[e1]
 refine tq ?_
 rw[e0]
 refine tq ?_
 rw[ec]
 refine tq ?_
 rw[Zp ..]
 exact tq rfl
theorem jA(h0:stOK sd0 au0 en0 ac0 re0 rs0 ck0 su0 mc0 ix0 l10 l20 l30 l40 l50 l60 ks0)(h1:stOK sd au en ac re rs ck su mc ix l1 l2 l3 l4 l5 l6 ks)(he:encS sd au en ac re rs ck od [] su mc ix l1 l2 l3 l4 l5 l6 ks=encS sd0 au0 en0 ac0 re0 rs0 ck0 od0 [] su0 mc0 ix0 l10 l20 l30 l40 l50 l60 ks0):Y E0 (.call 82 [Gm ar wr cu to false sd0 au0 en0 ac0 re0 rs0 ck0 od0 [] su0 mc0 ix0 l10 l20 l30 l40 l50 l60 ks0 st0 sp0 rb0 ru0 vc0 sf0 dr0 ss0 ob0 rl0 wl0 true nx,.agg [.sl (.sl .u8) sd,.sl (.sl .u8) au,.sl .u8 en,.i ac,.i re,.i rs,.i ck,.b od,.sl (.sl (.sl .u8)) [],.i su,.i mc,.sl AB ix,.i l1,.i l2,.i l3,.i l4,.i l5,.i l6,.sl BP ks,.b st,.b sp,.sl (.sl (.sl .u8)) rb,.i ru,.i vc,.b sf,.i dr,.sl sesT ss,.sl objT ob,.sl .i64 rl,.sl .i64 wl]] [])=some (.ret (.tup [Gm ar wr cu to false sd au en ac re rs ck od [] su mc ix l1 l2 l3 l4 l5 l6 ks st sp rb ru vc sf dr ss ob rl wl true nx,.i 0]) []):=by
 have e0:=Kw sd0 au0 en0 ac0 re0 rs0 ck0 od0 su0 mc0 ix0 l10 l20 l30 l40 l50 l60 ks0 h0.sl h0.al h0.sm h0.am h0.en h0.il h0.im h0.kl h0.km
 have e1:=Kw sd au en ac re rs ck od su mc ix l1 l2 l3 l4 l5 l6 ks h1.sl h1.al h1.sm h1.am h1.en h1.il h1.im h1.kl h1.km
 rw[he] at e1
 refine tq ?_
 rw[e1]
 refine tq ?_
 rw[e0]
 exact tq rfl
theorem vI(ar':List (List UInt8))(wr cu to wr' cu' to' nx nx' loc:Int)(sd0:List (List UInt8))(au0:List (List UInt8))(en0:List UInt8)(ac0:Int)(re0:Int)(rs0:Int)(ck0:Int)(od0:Bool)(su0:Int)(mc0:Int)(ix0:List (El AB))(l10:Int)(l20:Int)(l30:Int)(l40:Int)(l50:Int)(l60:Int)(ks0:List (El BP))(st0:Bool)(sp0:Bool)(rb0:List (List (List UInt8)))(ru0:Int)(vc0:Int)(sf0:Bool)(dr0:Int)(ss0:List (El sesT))(ob0:List (El objT))(rl0:List Int)(wl0:List Int)(sd:List (List UInt8))(au:List (List UInt8))(en:List UInt8)(ac:Int)(re:Int)(rs:Int)(ck:Int)(od:Bool)(su:Int)(mc:Int)(ix:List (El AB))(l1:Int)(l2:Int)(l3:Int)(l4:Int)(l5:Int)(l6:Int)(ks:List (El BP))(st:Bool)(sp:Bool)(rb:List (List (List UInt8)))(ru:Int)(vc:Int)(sf:Bool)(dr:Int)(ss:List (El sesT))(ob:List (El objT))(rl:List Int)(wl:List Int)(b r:List UInt8)(hrun:Y E0 (.call 81 [.agg [.sl (.sl .u8) sd0,.sl (.sl .u8) au0,.sl .u8 en0,.i ac0,.i re0,.i rs0,.i ck0,.b od0,.sl (.sl (.sl .u8)) [],.i su0,.i mc0,.sl AB ix0,.i l10,.i l20,.i l30,.i l40,.i l50,.i l60,.sl BP ks0,.b st0,.b sp0,.sl (.sl (.sl .u8)) rb0,.i ru0,.i vc0,.b sf0,.i dr0,.sl sesT ss0,.sl objT ob0,.sl .i64 rl0,.sl .i64 wl0],.i loc,.sl .u8 b] [])=some (.ret (.tup [.agg [.sl (.sl .u8) sd,.sl (.sl .u8) au,.sl .u8 en,.i ac,.i re,.i rs,.i ck,.b od,.sl (.sl (.sl .u8)) [],.i su,.i mc,.sl AB ix,.i l1,.i l2,.i l3,.i l4,.i l5,.i l6,.sl BP ks,.b st,.b sp,.sl (.sl (.sl .u8)) rb,.i ru,.i vc,.b sf,.i dr,.sl sesT ss,.sl objT ob,.sl .i64 rl,.sl .i64 wl],.sl .u8 r]) []))(hc:Y E0 (.call 82 [Gm ar wr cu to false sd0 au0 en0 ac0 re0 rs0 ck0 od0 [] su0 mc0 ix0 l10 l20 l30 l40 l50 l60 ks0 st0 sp0 rb0 ru0 vc0 sf0 dr0 ss0 ob0 rl0 wl0 true nx,.agg [.sl (.sl .u8) sd,.sl (.sl .u8) au,.sl .u8 en,.i ac,.i re,.i rs,.i ck,.b od,.sl (.sl (.sl .u8)) [],.i su,.i mc,.sl AB ix,.i l1,.i l2,.i l3,.i l4,.i l5,.i l6,.sl BP ks,.b st,.b sp,.sl (.sl (.sl .u8)) rb,.i ru,.i vc,.b sf,.i dr,.sl sesT ss,.sl objT ob,.sl .i64 rl,.sl .i64 wl]] [])=some (.ret (.tup [lI ar' wr' cu' to' true false nx',.i 29]) [])):Y E0 (.call 39 [Gm ar wr cu to false sd0 au0 en0 ac0 re0 rs0 ck0 od0 [] su0 mc0 ix0 l10 l20 l30 l40 l50 l60 ks0 st0 sp0 rb0 ru0 vc0 sf0 dr0 ss0 ob0 rl0 wl0 true nx,.i loc,.sl .u8 b] [])=some (.ret (.tup [lI ar' wr' cu' to' true false nx',.sl .u8 [],.i 29]) []):=by
 refine tq ?_
 rw[Lm ..]
 refine tq ?_
 rw[hrun]
 refine tq ?_
 rw[hc]
 exact tq rfl
theorem vJ(b r:List UInt8)(hrun:Y E0 (.call 81 [.agg [.sl (.sl .u8) sd0,.sl (.sl .u8) au0,.sl .u8 en0,.i ac0,.i re0,.i rs0,.i ck0,.b od0,.sl (.sl (.sl .u8)) [],.i su0,.i mc0,.sl AB ix0,.i l10,.i l20,.i l30,.i l40,.i l50,.i l60,.sl BP ks0,.b st0,.b sp0,.sl (.sl (.sl .u8)) rb0,.i ru0,.i vc0,.b sf0,.i dr0,.sl sesT ss0,.sl objT ob0,.sl .i64 rl0,.sl .i64 wl0],.i loc,.sl .u8 b] [])=some (.ret (.tup [.agg [.sl (.sl .u8) sd,.sl (.sl .u8) au,.sl .u8 en,.i ac,.i re,.i rs,.i ck,.b od,.sl (.sl (.sl .u8)) [],.i su,.i mc,.sl AB ix,.i l1,.i l2,.i l3,.i l4,.i l5,.i l6,.sl BP ks,.b st,.b sp,.sl (.sl (.sl .u8)) rb,.i ru,.i vc,.b sf,.i dr,.sl sesT ss,.sl objT ob,.sl .i64 rl,.sl .i64 wl],.sl .u8 r]) []))(hc:Y E0 (.call 82 [Gm ar wr cu to false sd0 au0 en0 ac0 re0 rs0 ck0 od0 [] su0 mc0 ix0 l10 l20 l30 l40 l50 l60 ks0 st0 sp0 rb0 ru0 vc0 sf0 dr0 ss0 ob0 rl0 wl0 true nx,.agg [.sl (.sl .u8) sd,.sl (.sl .u8) au,.sl .u8 en,.i ac,.i re,.i rs,.i ck,.b od,.sl (.sl (.sl .u8)) [],.i su,.i mc,.sl AB ix,.i l1,.i l2,.i l3,.i l4,.i l5,.i l6,.sl BP ks,.b st,.b sp,.sl (.sl (.sl .u8)) rb,.i ru,.i vc,.b sf,.i dr,.sl sesT ss,.sl objT ob,.sl .i64 rl,.sl .i64 wl]] [])=some (.ret (.tup [Gm ar wr cu to false sd au en ac re rs ck od [] su mc ix l1 l2 l3 l4 l5 l6 ks st sp rb ru vc sf dr ss ob rl wl true nx,.i 0]) [])):Y E0 (.call 39 [Gm ar wr cu to false sd0 au0 en0 ac0 re0 rs0 ck0 od0 [] su0 mc0 ix0 l10 l20 l30 l40 l50 l60 ks0 st0 sp0 rb0 ru0 vc0 sf0 dr0 ss0 ob0 rl0 wl0 true nx,.i loc,.sl .u8 b] [])=some (.ret (.tup [Gm ar wr cu to false sd au en ac re rs ck od [] su mc ix l1 l2 l3 l4 l5 l6 ks st sp rb ru vc sf dr ss ob rl wl true nx,.sl .u8 r,.i 0]) []):=by
 refine tq ?_
 rw[Lm ..]
 refine tq ?_
 rw[hrun]
 refine tq ?_
 rw[hc]
 exact tq rfl
theorem A5Q:Y E0 (.call 40 [.sl .u8 []] [])=some (.ret (.tup [Jw 0 [] [] [],.i 2]) []):=by
 have h0:=JF [] 0 0 1 zac zac
 rw[show IZ [] 0 0 1=(0,0,2) from by decide] at h0
 have hz:=SX [] 0 2 zac zac
 rw[show aG [] 0 2=2 from by decide] at hz
 refine tq ?_
 rw[Wv _]
 refine tq ?_
 rw[show Y E0 (.call 61 [.pa 0 0,.i 1] [.var [.sl .u8 [],.i 0,.i 0]])=_ from h0]
 refine tq ?_
 rw[SX _ _ _ Am Am]
 refine tq ?_
 rfl
theorem A18(ar':List (List UInt8))(wr cu to wr' cu' to' nx nx' loc:Int)(sd0:List (List UInt8))(au0:List (List UInt8))(en0:List UInt8)(ac0:Int)(re0:Int)(rs0:Int)(ck0:Int)(od0:Bool)(su0:Int)(mc0:Int)(ix0:List (El AB))(l10:Int)(l20:Int)(l30:Int)(l40:Int)(l50:Int)(l60:Int)(ks0:List (El BP))(st0:Bool)(sp0:Bool)(rb0:List (List (List UInt8)))(ru0:Int)(vc0:Int)(sf0:Bool)(dr0:Int)(ss0:List (El sesT))(ob0:List (El objT))(rl0:List Int)(wl0:List Int)(c:Int)(hs:List Int)(az:List (El AL))(qi:List Int)(qb:List (List UInt8))(b:List UInt8)(he:Y E0 (.call 38 [rq c hs az qi qb] [])=some (.ret (.tup [.sl .u8 b,.i 0]) []))(hsn:Y E0 (.call 39 [Gm ar wr cu to false sd0 au0 en0 ac0 re0 rs0 ck0 od0 [] su0 mc0 ix0 l10 l20 l30 l40 l50 l60 ks0 st0 sp0 rb0 ru0 vc0 sf0 dr0 ss0 ob0 rl0 wl0 true nx,.i loc,.sl .u8 b] [])=some (.ret (.tup [lI ar' wr' cu' to' true false nx',.sl .u8 [],.i 29]) [])):
  Y E0 (.call 13 [Gm ar wr cu to false sd0 au0 en0 ac0 re0 rs0 ck0 od0 [] su0 mc0 ix0 l10 l20 l30 l40 l50 l60 ks0 st0 sp0 rb0 ru0 vc0 sf0 dr0 ss0 ob0 rl0 wl0 true nx,.i loc,rq c hs az qi qb] [])=some (.ret (.tup [lI ar' wr' cu' to' true false nx',Jw 0 [] [] [],.b false]) []):=by
 refine tq ?_
 rw[he]
 refine tq ?_
 rw[hsn]
 refine tq ?_
 rw[A5Q]
 exact tq rfl
theorem A19(c:Int)(hs:List Int)(az:List (El AL))(qi:List Int)(qb:List (List UInt8))(b r:List UInt8)(e:Int)(is:List Int)(bs ns:List (List UInt8))(he:Y E0 (.call 38 [rq c hs az qi qb] [])=some (.ret (.tup [.sl .u8 b,.i 0]) []))(hsn:Y E0 (.call 39 [Gm ar wr cu to false sd0 au0 en0 ac0 re0 rs0 ck0 od0 [] su0 mc0 ix0 l10 l20 l30 l40 l50 l60 ks0 st0 sp0 rb0 ru0 vc0 sf0 dr0 ss0 ob0 rl0 wl0 true nx,.i loc,.sl .u8 b] [])=some (.ret (.tup [Gm ar wr cu to false sd au en ac re rs ck od [] su mc ix l1 l2 l3 l4 l5 l6 ks st sp rb ru vc sf dr ss ob rl wl true nx,.sl .u8 r,.i 0]) []))(hd:Y E0 (.call 40 [.sl .u8 r] [])=some (.ret (.tup [Jw e is bs ns,.i 0]) [])):
  Y E0 (.call 13 [Gm ar wr cu to false sd0 au0 en0 ac0 re0 rs0 ck0 od0 [] su0 mc0 ix0 l10 l20 l30 l40 l50 l60 ks0 st0 sp0 rb0 ru0 vc0 sf0 dr0 ss0 ob0 rl0 wl0 true nx,.i loc,rq c hs az qi qb] [])=some (.ret (.tup [Gm ar wr cu to false sd au en ac re rs ck od [] su mc ix l1 l2 l3 l4 l5 l6 ks st sp rb ru vc sf dr ss ob rl wl true nx,Jw e is bs ns,.b true]) []):=by
 refine tq ?_
 rw[he]
 refine tq ?_
 rw[hsn]
 refine tq ?_
 rw[hd]
 conv=>lhs;whnf
 try dsimp -iota -beta -eta -zeta only
 rw[Ep zaa]
 conv=>lhs;whnf
 try dsimp -iota -beta -eta -zeta only
 rw[drw zai];conv=>lhs;whnf
 try dsimp -iota -beta -eta -zeta only
 (congr 3;simp only[Hq,JA,Io,JB,DJ,GZ,AC];first|rfl|(rw[decide_eq_decide];omega)|(simp;omega))
end
theorem nH(n:Int)(h:0<=n/\n<=8):Y E0 (.call 126 [.i (-1),.i n] [])=some (.ret (.b true) []):=by
 refine tq ?_
 with_reducible rfl
theorem A1Y{a:Int}{n v:List UInt8}(ha:0<=a/\a<=65535)(hn:n.length<=128)(hv:v.length<=128):∀ x∈([(a,n,v)]:List (El AL)),((0:Int)<=x.1/\(x.1:Int)<=65535)/\x.2.1.length<=128/\x.2.2.length<=128:=by
 intro x hx;simp at hx;subst hx;exact⟨ha,hn,hv⟩
theorem A1Z{h:Int}(hh:0<=h/\h<=65535):∀ x∈[h],0<=x/\x<=65535:=by
 intro x hx;simp at hx;subst hx;exact hh
theorem jQ(x:El AL):(Ll x).length=6+x.2.1.length+x.2.2.length:=by simp[Ll,DK,Cc];omega
theorem A6d(k:Int)(hk:1<=k/\k<=3):rqG 16 0 [] [] [k] []:=by
 refine⟨lh,O8 0,vF,Sm 0,by decide,by simp,by simp,by simp,by simp,by simp,by simp,?_,by simp,?_⟩
 ·intro x hx;simp at hx;omega
 simp only[Gn,IY,List.length_append,DK,List.flatMap_nil,List.flatMap_cons,List.length_nil,List.length_cons,Bo]
 decide
theorem A6e(hh:0<=h/\h<=65535):rqG 17 (-1) [] [] [h,1,0,1,0,0] [[]]:=by
 refine⟨lm,Zv 1 zaa,vG,nH 1 zaa,by decide,by simp,by simp,by simp,by simp,by simp,by simp,?_,by simp,?_⟩
 ·intro x hx;simp at hx;omega
 simp only[Gn,IY,List.length_append,DK,List.flatMap_nil,List.flatMap_cons,List.length_nil,List.length_cons,Bo,Cc]
 decide
theorem A4B(k a t:Int)(p u d:List UInt8)(hh:0<=h/\h<=65535)(hk:0<=k/\k<=100)(ha:0<=a/\a<=100)(ht:0<=t/\t<=100)(hp:p.length<=200)(hu:u.length<=200)(hd:d.length<=200):rqG 9 3 [h] [(0,[],[])] [k,a,t] [p,u,d]:=by
 refine⟨uq,O8 3,A10,Sm 3,by decide,by simp,by simp,by simp,by simp,A1Z hh,A1Y zaa zan zan,?_,?_,?_⟩
 ·intro x hx;simp at hx;omega
 ·intro x hx;simp at hx;rcases hx with rfl|rfl|rfl<;>omega
 simp only[Gn,IY,List.length_append,DK,List.flatMap_nil,List.flatMap_cons,List.length_nil,List.length_cons,Bo,Cc,jQ]
 omega
theorem jR(s:Int)(hh:0<=h/\h<=65535)(hs:0<=s/\s<=65535)(v:List UInt8)(hv:v.length<=100):rqG 13 0 [h] [(s,[],v)] [] []:=by
 refine⟨lg,O8 0,vC,Sm 0,by decide,by simp,by simp,by simp,by simp,A1Z hh,A1Y hs zan zaa,by simp,by simp,?_⟩
 simp only[Gn,IY,List.length_append,DK,List.flatMap_nil,List.flatMap_cons,List.length_nil,List.length_cons,Bo,Cc,jQ]
 omega
end Go.Proofs.YtanagnimhaemgaaGreatDoor
