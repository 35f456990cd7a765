/-
  Own texts, laid together for this claim: contracts of functions of the program and its references, used by the statements of this seat.
-/
import Derived.Test.YtanagnimhaemgaaGreatDoorKtac
import Derived.Test.YtanagnimhaemgaaGreatDoorKtad
import Derived.Test.YtanagnimhaemgaaGreatDoorKtae
set_option linter.all false
set_option maxHeartbeats 40000000
set_option maxRecDepth 100000
namespace Go.Ax
open Go Go.Eng Go.RowKit
abbrev SI(E:Env)(q:Rq)(R:Option Rsp->Prop):Prop:=R (Y E q)
theorem pY{E:Env}{q:Rq}{R:Option Rsp->Prop}(h:∀ P:Option Rsp->Prop,(∀ r,R r->P r)->P (Y E q)):SI E q R:=h R fun _ h=>h
structure MS where
 sd:List (List UInt8)
 au:List (List UInt8)
 en:List UInt8
 ac:Int
 re:Int
 rs:Int
 ck:Int
 od:Bool
 sb:List (List (List UInt8))
 su:Int
 mc:Int
 ix:List (El AB)
 l1:Int
 l2:Int
 l3:Int
 l4:Int
 l5:Int
 l6:Int
 ks:List (El BP)
 st:Bool
 sp:Bool
 rb:List (List (List UInt8))
 ru:Int
 vc:Int
 sf:Bool
 dr:Int
 ss:List (El sesT)
 ob:List (El objT)
 rl:List Int
 wl:List Int
@[reducible] def cv (s:MS):List AV:=[.sl (.sl .u8) s.sd,.sl (.sl .u8) s.au,.sl .u8 s.en,.i s.ac,.i s.re,.i s.rs,.i s.ck,.b s.od,.sl (.sl (.sl .u8)) s.sb,.i s.su,.i s.mc,.sl AB s.ix,.i s.l1,.i s.l2,.i s.l3,.i s.l4,.i s.l5,.i s.l6,.sl BP s.ks,.b s.st,.b s.sp,.sl (.sl (.sl .u8)) s.rb,.i s.ru,.i s.vc,.b s.sf,.i s.dr,.sl sesT s.ss,.sl objT s.ob,.sl .i64 s.rl,.sl .i64 s.wl]
@[reducible] def av (s:MS):AV:=.agg (cv s)
@[reducible] def rq (c:Int) (hs:List Int) (az:List (El AL)) (is:List Int) (bs:List (List UInt8)):AV:=.agg [.i c,.sl .i64 hs,.sl AL az,.sl .i64 is,.sl (.sl .u8) bs]
@[reducible] def rp (e:Int) (is:List Int) (bs ns:List (List UInt8)):AV:=.agg [.i e,.sl .i64 is,.sl (.sl .u8) bs,.sl (.sl .u8) ns]
@[reducible] def ixA (n k a z:Int) (p u:List UInt8) (w:Bool) (d:List UInt8):AV:=.agg [.i n,.i k,.i a,.i z,.sl .u8 p,.sl .u8 u,.b w,.sl .u8 d]
@[reducible] def pg (k:Int) (n d:List UInt8) (u l c e:Int) (b:Bool):AV:=.agg [.i k,.sl .u8 n,.sl .u8 d,.i u,.i l,.i c,.i e,.b b]
@[reducible] def obA (k a h:Int) (p u x y z:List UInt8) (r:Int):AV:=.agg [.i k,.i a,.i h,.sl .u8 p,.sl .u8 u,.sl .u8 x,.sl .u8 y,.sl .u8 z,.i r]
def Zl(l1 l2 l3 l4 l5 l6:Int):Prop:=0<=l1/\l1<=1000/\0<=l2/\l2<=1000/\0<=l3/\l3<=2000000/\0<=l4/\l4<=1125899906842624/\0<=l5/\l5<=4503599627370496/\0<=l6/\l6<=2000000
def A6P(n k:Int)(p u d:List UInt8):Prop:=0<=n/\n<=255/\p.length<=32/\u.length<=32/\d.length<=128/\(k≠3\/d.length=8)
def NT(x:El AB):Prop:=A6P x.1 x.2.1 x.2.2.2.2.1 x.2.2.2.2.2.1 x.2.2.2.2.2.2.2
def A6Q(u:List UInt8)(n:Int):Prop:=u.length<=32/\0<=n/\n<=1000
def lH(x:El BP):Prop:=A6Q x.1 x.2
def A6R(n d:List UInt8)(l:Int):Prop:=n.length<=32/\d.length<=32
def A6S(x:El sesT):Prop:=A6R x.2.1 x.2.2.1 x.2.2.2.2.1
def A6T(p u e s d:List UInt8)(t:Int):Prop:=p.length<=32/\u.length<=32/\e.length<=32/\s.length<=32/\d.length<=128/\0<=t/\t<=3
def A6U(x:El objT):Prop:=A6T x.1.2.2.2.1 x.1.2.2.2.2 x.2.1.1 x.2.1.2.1 x.2.1.2.2 x.1.2.2.1
def SK(n:Nat)(b:List (List UInt8)):Prop:=b.length=16/\∀ x∈b,x.length=n
def A2y(a:Int)(rb:List (List (List UInt8))):Prop:=rb=[]\/∃ b0 b1,rb=[b0,b1]/\(b0=[]\/SK 20 b0)/\(b1=[]\/SK 32 b1)/\(a/2%2=1->SK 32 b1)
structure Kp (a k:Int) (s:MS):Prop where
 sdl:s.sd.length=3
 sdm:∀ x∈s.sd,x.length=32
 aul:s.au.length=4
 aum:∀ x∈s.au,x.length<=32
 en:s.en.length=32
 ac:s.ac=a/\0<=a/\a<=3
 kk:0<=k/\k<=1000
 re:0<=s.re/\s.re<=k
 rs:0<=s.rs/\s.rs<=k
 ck:0<=s.ck/\s.ck<=1099511627776
 sb:A2y a s.sb
 su:0<=s.su/\s.su<=k
 ixl:s.ix.length<=6
 ixm:∀ x∈s.ix,NT x
 lk:Zl s.l1 s.l2 s.l3 s.l4 s.l5 s.l6
 ksl:s.ks.length<=8
 ksm:∀ x∈s.ks,lH x
 rb:A2y a s.rb
 st:s.st=true->a/2%2=1->s.rb≠[]
 ru:0<=s.ru/\s.ru<=k
 vc:0<=s.vc/\s.vc<=1099511627776
 dr:0<=s.dr/\s.dr<=k
 ssl:s.ss.length=3
 ssm:∀ x∈s.ss,A6S x
 obl:s.ob.length=3
 obm:∀ x∈s.ob,A6U x
 rl:(s.rl.length:Int)<=k
 wl:(s.wl.length:Int)<=k
theorem Kp.up{a k k':Int}{s:MS}(h:Kp a k s)(hk:k<=k'/\k'<=1000):Kp a k' s:=by
 obtain⟨h1,h2,h3,h4,h5,h6,h7,h8,h9,h10,h11,h12,h13,h14,h15,h16,h17,h18,h19,h20,h21,h22,h23,h24,h25,h26,h27,h28⟩:=h
 exact⟨h1,h2,h3,h4,h5,h6,by omega,by omega,by omega,h10,h11,by omega,h13,h14,h15,h16,h17,h18,h19,by omega,h21,by omega,h23,h24,h25,h26,by omega,by omega⟩
theorem Gp{α:Type}{l:List α}{i:Int}(h:0<=i/\i<l.length):∃ x,x∈l/\Ah l i=some x:=⟨l[i.toNat]'zaa,List.getElem_mem _,DZ h⟩
theorem A48{α:Type}{n:Int}{x:α}{p:α->Prop}(hn:0<=n)(hx:p x):((BR n x).length:Int)=n/\∀ y∈BR n x,p y:=by
 rw[FO]
 refine⟨by simp;omega,fun y hy=>?_⟩
 rw[List.eq_of_mem_replicate hy];exact hx
def shp(c:Int):Option (Nat×Nat×Nat×Int) :=
 if c=1 then some (0,0,1,0) else if c=2 then some (0,0,1,0) else if c=4 then some (0,0,0,0) else if c=5 then some (0,0,2,0) else if c=6 then some (0,0,1,2) else if c=7 then some (0,0,1,1)
 else if c=8 then some (0,0,1,0) else if c=9 then some (1,1,3,3) else if c=10 then some (1,1,3,3) else if c=11 then some (1,1,0,2) else if c=12 then some (0,0,1,0) else if c=13 then some (1,1,0,0)
 else if c=14 then some (1,1,0,1) else if c=15 then some (1,1,2,1) else if c=16 then some (0,0,1,0) else if c=17 then some (0,0,6,-1) else if c=18 then some (1,1,2,1) else if c=19 then some (0,0,1,3)
 else if c=20 then some (0,0,1,0) else if c=21 then some (1,1,4,2) else if c=22 then some (1,1,1,0) else if c=23 then some (2,1,1,1) else if c=24 then some (2,1,2,0) else if c=25 then some (2,1,0,0)
 else if c=26 then some (2,1,0,1) else if c=27 then some (2,1,0,1) else if c=28 then some (2,1,0,0) else if c=29 then some (2,1,0,0) else if c=30 then some (1,1,0,1) else if c=31 then some (1,1,0,0)
 else if c=32 then some (1,1,0,0) else if c=33 then some (1,1,3,0) else none
structure Few (hs:List Int) (az:List (El AL)) (is:List Int) (bs:List (List UInt8)):Prop where
 hl:hs.length<=10
 al:az.length<=10
 am:∀ x∈az,x.2.1.length<=1000/\x.2.2.length<=1000
 il:is.length<=10
 bl:bs.length<=10
 bm:∀ x∈bs,x.length<=2000
structure Rok (c:Int) (hs:List Int) (az:List (El AL)) (is:List Int) (bs:List (List UInt8)):Prop where
 few:Few hs az is bs
 sh:∃ n,shp c=some (hs.length,az.length,is.length,n)/\((bs.length:Int)=n\/n = -1/\bs.length<=8)
 hm:∀ x∈hs,0<=x/\x<=65535
 am:∀ x∈az,0<=x.1/\x.1<=65535
 im:∀ x∈is,0<=x/\x<=1099511627776
 bm:∀ x∈bs,x.length<=1024
end Go.Ax
namespace Go.Proofs.YtanagnimhaemgaaGreatDoor
open Go Go.Ax Go.Eng
section
attribute [local irreducible] Bl CS CU CJ Bh Ak CV Du EN E5 EH Be BN CE Bz and' CG CO BC Ag Ar BF BG AY Aa AP AX CW Dv CX DT C9 BJ BD BA BB Au AQ Az Ac Aw Ah CY BL Bi BR BI CB CZ CP fits Cb CQ A8 AA AZ
attribute [local irreducible] KY EK Gs FP J8 Gz Ea Un
theorem A52(h:List UInt32)(hh:h.length=8)(p:List UInt8)(a:Nat)(ws:List UInt32)(hw:ws.length=64):Y E0 (.loop 29 2 0 3 [(3,.pa 0 0),(4,.nm 1),(5,.sl .u8 p),(6,.i a),(7,.pa 2 0),(11,.sl .u32 (BI [] h)),(12,.i 0)] [(0,some (.var ((List.range 64).map fun i=>AV.u32 (J8.getD i 0)))),(1,some (.row 128 .u32 h)),(2,some (.var ((List.range 64).map fun i=>AV.u32 (ws.getD i 0))))])=some (.fin (.exit 4) 2 [(3,.pa 0 0),(4,.nm 1),(5,.sl .u8 p),(6,.i a),(11,.sl .u32 (Gz ws 64 0 h))] [(0,some (.var ((List.range 64).map fun i=>AV.u32 (J8.getD i 0)))),(1,some (.row 128 .u32 h))]):=by
 have e:=A3z h p a ws hw 64 0 (h.getD 0 0) (h.getD 1 0) (h.getD 2 0) (h.getD 3 0) (h.getD 4 0) (h.getD 5 0) (h.getD 6 0) (h.getD 7 0) rfl
 rw[A50 hh,DV Gg,DV hw] at e
 rw[Ap]
 exact e
theorem A40(h s:List UInt32)(hh:h.length=8)(hs:s.length=8)(p:List UInt8)(a:Nat):∀(k i:Nat),i+k=8->Y E0 (.loop 29 3 0 2 [(3,.pa 0 0),(4,.nm 1),(5,.sl .u8 p),(6,.i a),(11,.sl .u32 s),(17,.i i)] [(0,some (.var ((List.range 64).map fun i=>AV.u32 (J8.getD i 0)))),(1,some (.row 128 .u32 (Ql h s i)))])=some (.fin (.exit 6) 2 [(3,.pa 0 0),(4,.nm 1),(5,.sl .u8 p),(6,.i a)] [(0,some (.var ((List.range 64).map fun i=>AV.u32 (J8.getD i 0)))),(1,some (.row 128 .u32 (Ql h s 8)))])
 | 0,i,hk=>by
  obtain rfl:i=8:=zaa
  rw[AU];conv=>lhs;whnf
  refine BM ?_
  rfl
 | k+1,i,hk=>by
  have ih:=A40 h s hh hs p a k (i+1) zaa
  have hl:=wS h s i zaa zaa
  rw[AU];conv=>lhs;whnf
  refine toA ?_
  rw[Ou (ws:=Ql h s i) zaa,aV h s i zaa zaa]
  refine toA ?_
  rw[Ou (ws:=s) zaa]
  refine toA ?_
  rw[Ou (ws:=Ql h s i) zaa,aV h s i zaa zaa]
  refine BM ?_
  rw[show((i:Int)+1)=((i+1:Nat):Int) from by omega,EU,Ju,show((i:Nat):Int).toNat=i from by omega,wU h s i zaa zaa];exact ih
theorem uK(h:List UInt32)(b:List UInt8):Ql h (Gz (EW b 64) 64 0 h) 8=EK h b:=by
 rw[EK,show Gz (EW b 64) 64 0 h=Nk (EW b 64) h 64 from WS _ _ 64 0]
theorem A53(p:List UInt8)(a:Nat):(List.take ((a:Int)+64-a).toNat (List.drop (a:Int).toNat p))=(p.drop a).take 64:=by rw[show((a:Int)+64-a).toNat=64 from by omega,show(a:Int).toNat=a from by omega]
theorem A41(p:List UInt8)(hp:p.length<=8589934592):∀(n a:Nat) (h:List UInt32),h.length=8->a+64*n=p.length->Y E0 (.loop 29 0 0 2 [(3,.pa 0 0),(4,.nm 1),(5,.sl .u8 p),(6,.i a)] [(0,some (.var ((List.range 64).map fun i=>AV.u32 (J8.getD i 0)))),(1,some (.row 128 .u32 h))])=some (.fin (.exit 0) 0 [(4,.sl .u32 (Gs EK n h (p.drop a)))] [])
 | 0,a,h,hh,hn=>by
  rw[AU];conv=>lhs;whnf
  refine BM ?_
  rw[Gs]
 | n+1,a,h,hh,hn=>by
  have ih:=A41 p hp n (a+64) (EK h ((p.drop a).take 64)) (KG _ _ hh) zaa
  have e:=A51 h p _ a zaa hp rfl
  have f:=A52 h hh p a (EW (List.take ((a:Int)+64-a).toNat (List.drop (a:Int).toNat p)) 64) (Nj _ _)
  have g:=A40 h _ hh (Pi (EW (List.take ((a:Int)+64-a).toNat (List.drop (a:Int).toNat p)) 64) 64 0 h hh) p a 8 0 rfl
  rw[AU];conv=>lhs;whnf
  refine BM ?_
  (erw[e])
  refine BM ?_
  (erw[f])
  refine BM ?_
  (erw[g])
  refine BM ?_
  rw[uK,A53,show((a:Int)+64)=((a+64:Nat):Int) from by omega];exact ih.trans (by rw[Gs,List.drop_drop])
theorem YH(l:List UInt8)(hl:l.length<=4294967296):Y E0 (.call 29 [.sl .u8 l] [])=some (.ret (.sl .u8 (sha256 l)) []):=by
 have hp:=aT l
 have e:=A41 (OL l) zaa ((OL l).length/64) 0 h256 rfl zaa
 have hf:=LM (m:=8) KG ((OL l).length/64) h256 (OL l) rfl
 refine BM ?_
 rw[zn]
 refine BM ?_
 rw[A2p _ Bq]
 refine BM ?_
 (erw[e])
 refine BM ?_
 rw[zu _ Bq]
 refine BM ?_
 rfl
end
end Go.Proofs.YtanagnimhaemgaaGreatDoor
namespace Go.Proofs.YtanagnimhaemgaaGreatDoor
open Go Go.RowKit Go.Eng Go.Ax
theorem JO(l:List UInt8)(hl:l.length<=4294967296):Y E0 (.call 176 [.i 1,.sl .u8 l] [])=some (.ret (.sl .u8 (sha256 l)) []):=uJ 1 l hl
end Go.Proofs.YtanagnimhaemgaaGreatDoor
namespace Go.Proofs.YtanagnimhaemgaaGreatDoor
open Go Go.Ax Go.Eng
variable (tag:Int)(ls:List (List UInt8))
section
attribute [local irreducible] Bl CS CU CJ Bh Ak CV Du EN E5 EH Be BN CE Bz and' CG CO BC Ag Ar BF BG AY Aa AP AX CW Dv CX DT C9 BJ BD BA BB Au AQ Az Ac Aw Ah CY BL Bi BR BI CB CZ CP fits Cb CQ A8 AA AZ
theorem MJ(tag:Int)(ls:List (List UInt8))(hl:(Af tag ls).length<=4294967296)(hn:ls.length<=4294967296):∀(k i:Nat),i+k=ls.length ->
  Y E0 (.loop 178 0 0 1 [(5,.nm 0),(12,.sl (.sl .u8) ls),(13,.i ls.length),(14,.i i)] [(0,some (.row 5 .u8 (Af tag (ls.take i))))])=some (.fin (.exit 0) 0 [(5,.sl .u8 (Af tag ls))] [])
 | 0,i,hi=>by
  have e:ls.take i=ls:=List.take_of_length_le zaa
  rw[e]
  rw[AU];conv=>lhs;whnf
  exact BM rfl
 | k+1,i,hi=>by
  have ih:=MJ tag ls hl hn k (i+1) zaa
  have hg:ls[i]?=some (ls[i]'zaa):=List.getElem?_eq_getElem zaa
  have h1:=UZ tag ls i _ hg
  have h2:=Xv tag ls (i+1)
  have h3:=congrArg List.length h1
  simp only[List.length_append,JW] at h3
  rw[AU];conv=>lhs;whnf
  refine BM ?_
  refine(congrArg (Y E0) ?_).trans ih;(try simp only[Rq.loop.injEq,Rq.call.injEq,Rq.ops.injEq,List.cons.injEq,Prod.mk.injEq,AV.i.injEq,AV.sl.injEq,AV.st.injEq,AV.b.injEq,AV.u8.injEq,AV.nm.injEq,Option.some.injEq,Rs.row.injEq,Rs.var.injEq,heq_eq_eq,true_and,and_true]);(try(repeat' apply And.intro));all_goals first|(with_reducible rfl)|omega|(rw[D7 zaa];omega)|(rw[EI zaa];omega)|(rw[h1,Ap,Ap,A6z])
theorem Kt(hl:(Af tag ls).length<=4294967296)(hn:ls.length<=4294967296):Y E0 (.call 178 [.i tag,.sl (.sl .u8) ls] [])=some (.ret (.sl .u8 (Af tag ls)) []):=by
 refine BM ?_
 rw[show DT tag=UInt8.ofInt tag from EM _,show [UInt8.ofInt tag]=Af tag (ls.take 0) from rfl,AC];rw[show(0:Int)=((0:Nat):Int) from rfl,MJ tag ls hl hn ls.length 0 zaa]
 exact BM rfl
theorem MK(tag:Int)(ls:List (List UInt8))(hl:(Af tag ls).length<=4294967295)(hn:ls.length<=4294967296):∀(k i:Nat),i+k=ls.length ->
  Y E0 (.loop 42 0 0 1 [(1,.sl (.sl .u8) ls),(5,.nm 0),(6,.i i)] [(0,some (.row 5 .u8 (Af tag (ls.take i))))])=some (.fin (.exit 0) 0 [(5,.sl .u8 (Af tag ls))] [])
 | 0,i,hi=>by
  have e:ls.take i=ls:=List.take_of_length_le zaa
  rw[e]
  rw[AU];conv=>lhs;whnf
  exact BM rfl
 | k+1,i,hi=>by
  have ih:=MK tag ls hl hn k (i+1) zaa
  have hg:ls[i]?=some (ls[i]'zaa):=List.getElem?_eq_getElem zaa
  have h1:=UZ tag ls i _ hg
  have h2:=Xv tag ls (i+1)
  have h3:=congrArg List.length h1
  simp only[List.length_append,JW] at h3
  rw[AU];conv=>lhs;whnf
  refine BM ?_
  refine(congrArg (Y E0) ?_).trans ih;(try simp only[Rq.loop.injEq,Rq.call.injEq,Rq.ops.injEq,List.cons.injEq,Prod.mk.injEq,AV.i.injEq,AV.sl.injEq,AV.st.injEq,AV.b.injEq,AV.u8.injEq,AV.nm.injEq,Option.some.injEq,Rs.row.injEq,Rs.var.injEq,heq_eq_eq,true_and,and_true]);(try(repeat' apply And.intro));all_goals first|(with_reducible rfl)|omega|(rw[D7 zaa];omega)|(rw[EI zaa];omega)|(rw[h1,Ap,Ap,AC,rf4 _ zaa])
theorem S9(hl:(Af tag ls).length<=4294967295)(hn:ls.length<=4294967296):Y E0 (.call 42 [.i tag,.sl (.sl .u8) ls] [])=some (.ret (.sl .u8 (Af tag ls)) []):=by
 refine BM ?_
 rw[show DT tag=UInt8.ofInt tag from EM _,show [UInt8.ofInt tag]=Af tag (ls.take 0) from rfl];rw[show(0:Int)=((0:Nat):Int) from rfl,MK tag ls hl hn ls.length 0 zaa]
 exact BM rfl
theorem FB(hl:(Af tag ls).length<=4294967295)(hn:ls.length<=4294967296):Y E0 (.call 152 [.i tag,.sl (.sl .u8) ls] [])=some (.ret (.sl .u8 (sha256 (Af tag ls))) []):=by
 refine BM ?_
 rw[Kt _ _ Bq Bq]
 refine BM ?_
 rw[JO _ Bq]
 exact BM rfl
theorem Uf(hl:(Af tag ls).length<=4294967295)(hn:ls.length<=4294967296):Y E0 (.call 43 [.i tag,.sl (.sl .u8) ls] [])=some (.ret (.sl .u8 (sha256 (Af tag ls))) []):=by
 refine BM ?_
 rw[S9 _ _ Bq Bq]
 refine BM ?_
 rw[YH _ Bq]
 exact BM rfl
end
end Go.Proofs.YtanagnimhaemgaaGreatDoor
