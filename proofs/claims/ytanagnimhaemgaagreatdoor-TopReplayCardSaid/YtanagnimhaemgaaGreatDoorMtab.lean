/-
  Own texts, laid together for this claim: contracts of functions of the program and its references, used by the statements of this seat.
-/
import Derived.Test.YtanagnimhaemgaaGreatDoorMtaa
set_option linter.all false
set_option maxHeartbeats 40000000
set_option maxRecDepth 100000
namespace Go.Ax
open Go Go.Eng Go.RowKit
def kM(g0:Nat)(tab:List UInt32):TT->Bool
 | []=>true
 | (_,i)::r=>(match i.gl with|[]=>true|(g,l)::[]=>Nat.beq g g0&&decide (l=tab)|_=>false)&&kM g0 tab r
def dD:Value->Value->Bool
 | .int .i64 a,.int .i64 b|.int .u8 a,.int .u8 b=>decide (a=b)
 | _,_=>false
def ZR:List Value->List Value->Bool
 | [],[]=>true
 | a::l,b::m=>dD a b&&ZR l m
 | _,_=>false
theorem ZT{a b:Value}(h:dD a b=true):a=b:=by
 unfold dD at h
 split at h
 ·rw[of_decide_eq_true h]
 ·rw[of_decide_eq_true h]
 ·cases h
theorem UR:∀ {l m:List Value},ZR l m=true->l=m
 | [],[],_=>rfl
 | a::l,b::m,h=>by simp only[ZR,Bool.and_eq_true] at h;rw[ZT h.1,UR h.2]
 | [],_::_,h|_::_,[],h=>zt
def ZU(g:Nat)(us:List Value):List (Nat×List Value)->Bool
 | []=>false
 | (d,v)::r=>(Nat.beq g d&&ZR us v)||ZU g us r
theorem UT{g:Nat}{us:List Value}:∀ {L:List (Nat×List Value)},ZU g us L=true->(g,us)∈L
 | [],h=>zt
 | (d,v)::r,h=>by
  simp only[ZU,Bool.or_eq_true,Bool.and_eq_true] at h
  rcases h with⟨h1,h2⟩|h
  ·rw[DL h1,UR h2];exact List.mem_cons_self ..
  ·exact List.mem_cons_of_mem _ (UT h)
def kN(L:List (Nat×List Value)):TT->Bool
 | []=>true
 | (_,i)::r=>(match i.ga with|[]=>true|(g,us)::[]=>ZU g us L|_=>false)&&kN L r
theorem Xh{L:List (Nat×List Value)}:∀ {T:TT},kN L T=true->∀ t i,Ha t T=some i->i.ga=[]\/∃ p,p∈L/\i.ga=[p]
 | [],_,t,i,h=>zt
 | (d,v)::r,h,t,i,h1=>by
  simp only[kN,Bool.and_eq_true] at h
  simp only[Ha] at h1
  cases hb:Nat.beq t d with
  | false=>rw[hb] at h1;exact Xh h.2 t i h1
  | true =>
   rw[hb] at h1
   obtain rfl:=Option.some.inj h1
   have h3:=h.1
   split at h3
   ·rename_i e;exact .inl e
   ·rename_i g us e;exact .inr ⟨_,UT h3,e⟩
   ·cases h3
theorem Xi{g0:Nat}{tab:List UInt32}:∀ {T:TT},kM g0 tab T=true->∀ t i g l,Ha t T=some i->eH g i.gl=some l->g=g0/\l=tab
 | [],_,t,i,g,l,h,_=>zt
 | (d,v)::r,h,t,i,g,l,h1,h2=>by
  simp only[kM,Bool.and_eq_true] at h
  simp only[Ha] at h1
  cases hb:Nat.beq t d with
  | false=>rw[hb] at h1;exact Xi h.2 t i g l h1 h2
  | true =>
   rw[hb] at h1
   obtain rfl:=Option.some.inj h1
   have h3:=h.1
   split at h3
   ·rename_i e;rw[e] at h2;cases h2
   ·rename_i g' l' e
    rw[e] at h2
    simp only[Bool.and_eq_true,decide_eq_true_eq] at h3
    simp only[eH] at h2
    cases hg:Nat.beq g g' with
    | false=>rw[hg] at h2;cases h2
    | true=>rw[hg] at h2;exact⟨(DL hg).trans (DL h3.1),(Option.some.inj h2).symm.trans h3.2⟩
   ·cases h3
abbrev Rets(E:Env)(q:Rq)(R:Option Rsp->Prop):Prop:=R (Y E q)
theorem byP{E:Env}{q:Rq}{R:Option Rsp->Prop}(h:∀ P:Option Rsp->Prop,(∀ r,R r->P r)->P (Y E q)):Rets E q R:=h R fun _ h=>h
structure MS where
 sd:List (List UInt8)
 au:List (List UInt8)
 en:List UInt8
 ac:Int
 re:Int
 rs:Int
 ck:Int
 od:Bool
 sb:List (List (List UInt8))
 su:Int
 mc:Int
 ix:List (El FU)
 l1:Int
 l2:Int
 l3:Int
 l4:Int
 l5:Int
 l6:Int
 ks:List (El IJ)
 st:Bool
 sp:Bool
 rb:List (List (List UInt8))
 ru:Int
 vc:Int
 sf:Bool
 dr:Int
 ss:List (El Gi)
 ob:List (El objT)
 rl:List Int
 wl:List Int
@[reducible] def cv (s:MS):List AV:=[.sl (.sl .u8) s.sd,.sl (.sl .u8) s.au,.sl .u8 s.en,.i s.ac,.i s.re,.i s.rs,.i s.ck,.b s.od,.sl (.sl (.sl .u8)) s.sb,.i s.su,.i s.mc,.sl FU s.ix,.i s.l1,.i s.l2,.i s.l3,.i s.l4,.i s.l5,.i s.l6,.sl IJ s.ks,.b s.st,.b s.sp,.sl (.sl (.sl .u8)) s.rb,.i s.ru,.i s.vc,.b s.sf,.i s.dr,.sl Gi s.ss,.sl objT s.ob,.sl .i64 s.rl,.sl .i64 s.wl]
@[reducible] def av (s:MS):AV:=.agg (cv s)
@[reducible] def rq (c:Int) (hs:List Int) (az:List (El MR)) (is:List Int) (bs:List (List UInt8)):AV:=.agg [.i c,.sl .i64 hs,.sl MR az,.sl .i64 is,.sl (.sl .u8) bs]
@[reducible] def rp (e:Int) (is:List Int) (bs ns:List (List UInt8)):AV:=.agg [.i e,.sl .i64 is,.sl (.sl .u8) bs,.sl (.sl .u8) ns]
@[reducible] def nO (n k a z:Int) (p u:List UInt8) (w:Bool) (d:List UInt8):AV:=.agg [.i n,.i k,.i a,.i z,.sl .u8 p,.sl .u8 u,.b w,.sl .u8 d]
@[reducible] def nP (k:Int) (n d:List UInt8) (u l c e:Int) (b:Bool):AV:=.agg [.i k,.sl .u8 n,.sl .u8 d,.i u,.i l,.i c,.i e,.b b]
@[reducible] def nR (k a h:Int) (p u x y z:List UInt8) (r:Int):AV:=.agg [.i k,.i a,.i h,.sl .u8 p,.sl .u8 u,.sl .u8 x,.sl .u8 y,.sl .u8 z,.i r]
def Zj(l1 l2 l3 l4 l5 l6:Int):Prop:=0<=l1/\l1<=1000/\0<=l2/\l2<=1000/\0<=l3/\l3<=2000000/\0<=l4/\l4<=1125899906842624/\0<=l5/\l5<=4503599627370496/\0<=l6/\l6<=2000000
def iT(n k:Int)(p u d:List UInt8):Prop:=0<=n/\n<=255/\p.length<=32/\u.length<=32/\d.length<=128/\(k≠3\/d.length=8)
def iU(x:El FU):Prop:=iT x.1 x.2.1 x.2.2.2.2.1 x.2.2.2.2.2.1 x.2.2.2.2.2.2.2
def iV(u:List UInt8)(n:Int):Prop:=u.length<=32/\0<=n/\n<=1000
def iW(x:El IJ):Prop:=iV x.1 x.2
def iY(n d:List UInt8)(l:Int):Prop:=n.length<=32/\d.length<=32
def iZ(x:El Gi):Prop:=iY x.2.1 x.2.2.1 x.2.2.2.2.1
def ig(p u e s d:List UInt8)(t:Int):Prop:=p.length<=32/\u.length<=32/\e.length<=32/\s.length<=32/\d.length<=128/\0<=t/\t<=3
def ik(x:El objT):Prop:=ig x.1.2.2.2.1 x.1.2.2.2.2 x.2.1.1 x.2.1.2.1 x.2.1.2.2 x.1.2.2.1
def dX(n:Nat)(b:List (List UInt8)):Prop:=b.length=16/\∀ x∈b,x.length=n
def iq(a:Int)(rb:List (List (List UInt8))):Prop:=rb=[]\/∃ b0 b1,rb=[b0,b1]/\(b0=[]\/dX 20 b0)/\(b1=[]\/dX 32 b1)/\(a/2%2=1->dX 32 b1)
structure Kp (a k:Int) (s:MS):Prop where
 sdl:s.sd.length=3
 sdm:∀ x∈s.sd,x.length=32
 aul:s.au.length=4
 aum:∀ x∈s.au,x.length<=32
 en:s.en.length=32
 ac:s.ac=a/\0<=a/\a<=3
 kk:0<=k/\k<=1000
 re:0<=s.re/\s.re<=k
 rs:0<=s.rs/\s.rs<=k
 ck:0<=s.ck/\s.ck<=1099511627776
 sb:iq a s.sb
 su:0<=s.su/\s.su<=k
 ixl:s.ix.length<=6
 ixm:∀ x∈s.ix,iU x
 lk:Zj s.l1 s.l2 s.l3 s.l4 s.l5 s.l6
 ksl:s.ks.length<=8
 ksm:∀ x∈s.ks,iW x
 rb:iq a s.rb
 st:s.st=true->a/2%2=1->s.rb≠[]
 ru:0<=s.ru/\s.ru<=k
 vc:0<=s.vc/\s.vc<=1099511627776
 dr:0<=s.dr/\s.dr<=k
 ssl:s.ss.length=3
 ssm:∀ x∈s.ss,iZ x
 obl:s.ob.length=3
 obm:∀ x∈s.ob,ik x
 rl:(s.rl.length:Int)<=k
 wl:(s.wl.length:Int)<=k
theorem Kp.up{a k k':Int}{s:MS}(h:Kp a k s)(hk:k<=k'/\k'<=1000):Kp a k' s:=by
 obtain⟨h1,h2,h3,h4,h5,h6,h7,h8,h9,h10,h11,h12,h13,h14,h15,h16,h17,h18,h19,h20,h21,h22,h23,h24,h25,h26,h27,h28⟩:=h
 exact⟨h1,h2,h3,h4,h5,h6,by omega,by omega,by omega,h10,h11,by omega,h13,h14,h15,h16,h17,h18,h19,by omega,h21,by omega,h23,h24,h25,h26,by omega,by omega⟩
theorem get_m{α:Type}{l:List α}{i:Int}(h:0<=i/\i<l.length):∃ x,x∈l/\BA l i=some x:=⟨l[i.toNat]'zf,List.getElem_mem _,lget_i h⟩
theorem aK{α:Type}{n:Int}{x:α}{p:α->Prop}(hn:0<=n)(hx:p x):((Au n x).length:Int)=n/\∀ y∈Au n x,p y:=by
 rw[QQ]
 refine⟨by simp;omega,fun y hy=>?_⟩
 rw[List.eq_of_mem_replicate hy];exact hx
def nC(c:Int):Option (Nat×Nat×Nat×Int) :=
 if c=1 then some (0,0,1,0) else if c=2 then some (0,0,1,0) else if c=4 then some (0,0,0,0) else if c=5 then some (0,0,2,0) else if c=6 then some (0,0,1,2) else if c=7 then some (0,0,1,1)
 else if c=8 then some (0,0,1,0) else if c=9 then some (1,1,3,3) else if c=10 then some (1,1,3,3) else if c=11 then some (1,1,0,2) else if c=12 then some (0,0,1,0) else if c=13 then some (1,1,0,0)
 else if c=14 then some (1,1,0,1) else if c=15 then some (1,1,2,1) else if c=16 then some (0,0,1,0) else if c=17 then some (0,0,6,-1) else if c=18 then some (1,1,2,1) else if c=19 then some (0,0,1,3)
 else if c=20 then some (0,0,1,0) else if c=21 then some (1,1,4,2) else if c=22 then some (1,1,1,0) else if c=23 then some (2,1,1,1) else if c=24 then some (2,1,2,0) else if c=25 then some (2,1,0,0)
 else if c=26 then some (2,1,0,1) else if c=27 then some (2,1,0,1) else if c=28 then some (2,1,0,0) else if c=29 then some (2,1,0,0) else if c=30 then some (1,1,0,1) else if c=31 then some (1,1,0,0)
 else if c=32 then some (1,1,0,0) else if c=33 then some (1,1,3,0) else none
structure Few (hs:List Int) (az:List (El MR)) (is:List Int) (bs:List (List UInt8)):Prop where
 hl:hs.length<=10
 al:az.length<=10
 am:∀ x∈az,x.2.1.length<=1000/\x.2.2.length<=1000
 il:is.length<=10
 bl:bs.length<=10
 bm:∀ x∈bs,x.length<=2000
structure Rok (c:Int) (hs:List Int) (az:List (El MR)) (is:List Int) (bs:List (List UInt8)):Prop where
 few:Few hs az is bs
 sh:∃ n,nC c=some (hs.length,az.length,is.length,n)/\((bs.length:Int)=n\/n = -1/\bs.length<=8)
 hm:∀ x∈hs,0<=x/\x<=65535
 am:∀ x∈az,0<=x.1/\x.1<=65535
 im:∀ x∈is,0<=x/\x<=1099511627776
 bm:∀ x∈bs,x.length<=1024
end Go.Ax
namespace Go.Proofs.YtanagnimhaemgaaGreatDoor
open Go Go.Ax Go.Eng Go.RowKit
section
attribute [local irreducible] BL BM BN BO BP BJ BQ CX Cm CY CW Ba Bc BF BC and' BG Bd Aa Ac Ad Ae Af AL AO AP AQ BR D8 BU D5 Be Bf Ag Ah Ai Aj AB AZ AU Ar BA BV BH BB Au Aw BI Bg BX fits BZ BK A7 A8 AC
theorem Ku{P:Program}{I:World->Prop}{f:FuncId}{t:Ty}{l:List (El t)}{s:AV}{H:List (Option Rs)}(h1:l=[]->Og P I f [.nil] [] s H)(h2:Og P I f [.sn t l] [] s H):Og P I f [.sl t l] [] s H:=by
 intro ν O w args hG hR hP
 simp only[AA,Rep] at hR
 obtain⟨u,_,rfl,hu,rfl⟩:=hR
 obtain⟨cs,hc,a,cap,rfl,h3,h4,h5,h6,h7⟩:=hu w (Stp.refl _ _)
 cases a with
 | none =>
  obtain⟨e1,e2⟩:=h6 rfl
  exact h1 (List.length_eq_zero_iff.1 e1) ν O w _ hG (by simp only[AA,Rep];exact⟨_,_,rfl,by rw[e1,e2],rfl⟩) hP
 | some p=>exact h2 ν O w _ hG (by simp only[AA,Rep];exact⟨_,_,rfl,⟨⟨p,_,_,rfl⟩,hu⟩,rfl⟩) hP
structure KT (w:World):Prop where
 kt:∀ j,j<64->w.cell? ⟨2,0+j,none⟩=some (wordV (MZ.getD j 0))
 fm:∀ j u,formsV[j]?=some u->w.cell? ⟨1,j,none⟩=some u
 mg:∀ j u,magicV[j]?=some u->w.cell? ⟨0,j,none⟩=some u
theorem KT.ext{w w':World}(h:KT w)(he:Ext w w'):KT w' where
 kt j hj:=Jv (h.kt j hj) he
 fm j u hu:=Jv (h.fm j u hu) he
 mg j u hu:=Jv (h.mg j u hu) he
abbrev I0:World->Prop:=KT
theorem kP:TTok Tryz.prog I0 dh where
 tok:=mY
 gl t i g l h1 h2 w hw j x hx:=by
  obtain⟨rfl,rfl⟩:=Xi (g0:=2) (tab:=MZ) (T:=dh) zi _ _ _ _ h1 h2
  have hj:=(List.getElem?_eq_some_iff.1 hx).1
  have h3:=hw.kt j hj
  rw[Nat.zero_add] at h3
  rw[h3,List.getD,hx];rfl
 ga t i g us h1 h2:=by
  rcases Xh (L:=[(1,formsV),(0,magicV)]) (T:=dh) zi _ _ h1 with e|⟨p,hp,e⟩
  ·rw[e] at h2;cases h2
  ·rw[e] at h2
   simp only[List.mem_cons,List.not_mem_nil,or_false] at hp
   rcases hp with rfl|rfl
   ·simp only[Qk] at h2
    cases hb:Nat.beq g 1 with
    | false=>rw[hb] at h2;cases h2
    | true =>
     rw[hb] at h2
     obtain rfl:=DL hb
     obtain rfl:=Option.some.inj h2
     exact⟨fun u hu=>List.all_eq_true.1 (show(formsV.all fun u=>u.oneCell')=true from by kernel_rfl) u hu,fun w hw=>hw.fm⟩
   ·simp only[Qk] at h2
    cases hb:Nat.beq g 0 with
    | false=>rw[hb] at h2;cases h2
    | true =>
     rw[hb] at h2
     obtain rfl:=DL hb
     obtain rfl:=Option.some.inj h2
     exact⟨fun u hu=>List.all_eq_true.1 (show(magicV.all fun u=>u.oneCell')=true from by kernel_rfl) u hu,fun w hw=>hw.mg⟩
noncomputable def E00:Env:=⟨dh,FT0,CT0,fun _=>none,[]⟩
theorem ZV:Y E00 (.call 224 [.nil] [])=some (.ret (.nm 0) [some (.row 99 objT [])]):=by
 rw[JB];conv=>lhs;whnf
theorem dE(l:List (El objT))(h:l.length<=4294967296):Y E00 (.call 224 [.sn objT l] [])=some (.ret (.nm 0) [some (.row 99 objT l)]):=by
 rw[JB];conv=>lhs;whnf
 rw[Ls zF]
 conv=>lhs;whnf
 simp only[NO];try with_reducible rfl
theorem ZW:Y E00 (.call 339 [.nil] [])=some (.ret (.nm 0) [some (.row 187 IJ [])]):=by
 rw[JB];conv=>lhs;whnf
theorem dF(l:List (El IJ))(h:l.length<=4294967296):Y E00 (.call 339 [.sn IJ l] [])=some (.ret (.nm 0) [some (.row 187 IJ l)]):=by
 rw[JB];conv=>lhs;whnf
 rw[Ls zF]
 conv=>lhs;whnf
 simp only[NO];try with_reducible rfl
theorem ZX:Y E00 (.call 262 [.nil] [])=some (.ret (.nm 0) [some (.row 181 FU [])]):=by
 rw[JB];conv=>lhs;whnf
theorem dG(l:List (El FU))(h:l.length<=4294967296):Y E00 (.call 262 [.sn FU l] [])=some (.ret (.nm 0) [some (.row 181 FU l)]):=by
 rw[JB];conv=>lhs;whnf
 rw[Ls zF]
 conv=>lhs;whnf
 simp only[NO];try with_reducible rfl
theorem ZY:Y E00 (.call 314 [.nil] [])=some (.ret (.nm 0) [some (.row 22 (.sl .u8) [])]):=by
 rw[JB];conv=>lhs;whnf
theorem dH(l:List (El (.sl .u8)))(h:l.length<=4294967296):Y E00 (.call 314 [.sn (.sl .u8) l] [])=some (.ret (.nm 0) [some (.row 22 (.sl .u8) l)]):=by
 rw[JB];conv=>lhs;whnf
 rw[Ls zF]
 conv=>lhs;whnf
 simp only[NO];try with_reducible rfl
theorem ZZ:Y E00 (.call 312 [.nil] [])=some (.ret (.nm 0) [some (.row 3 (.i64) [])]):=by
 rw[JB];conv=>lhs;whnf
theorem dI(l:List (El (.i64)))(h:l.length<=4294967296):Y E00 (.call 312 [.sn (.i64) l] [])=some (.ret (.nm 0) [some (.row 3 (.i64) l)]):=by
 rw[JB];conv=>lhs;whnf
 rw[Ls zF]
 conv=>lhs;whnf
 simp only[NO];try with_reducible rfl
theorem Kv{α:Type}{l:List α}(h:fits l 32768=true):l.length<=4294967296:=by
 simp only[Np,fits0,decide_eq_true_eq] at h;omega
noncomputable def kQ:Orc:=fun q=>match q with
 | .call f [.sl t l] [] =>
  bif Nat.beq f 224&&decide (t=objT)&&fits l 32768 then some (.ret (.nm 0) [some (.row 99 t l)]) else
  bif Nat.beq f 339&&decide (t=IJ)&&fits l 32768 then some (.ret (.nm 0) [some (.row 187 t l)]) else
  bif Nat.beq f 262&&decide (t=FU)&&fits l 32768 then some (.ret (.nm 0) [some (.row 181 t l)]) else
  bif Nat.beq f 314&&decide (t=(.sl .u8))&&fits l 32768 then some (.ret (.nm 0) [some (.row 22 t l)]) else
  bif Nat.beq f 312&&decide (t=(.i64))&&fits l 32768 then some (.ret (.nm 0) [some (.row 3 t l)]) else
  none
 | _=>none
theorem dJ{E:Env}:∀ q r,kQ q=some r->Z9 Tryz.prog I0 E q r:=by
 have e00:EnvOK Tryz.prog I0 E00:=⟨kP,kL,ct0.get,by kernel_rfl,fun _ _ h=>by cases h⟩
 intro q r h
 unfold kQ at h
 split at h
 ·rename_i f t l
  cases hb0:(Nat.beq f 224&&decide (t=objT)&&fits l 32768) with
  | true =>
   rw[hb0,cond_true] at h
   simp only[Bool.and_eq_true,decide_eq_true_eq] at hb0
   obtain⟨⟨h1,rfl⟩,h3⟩:=hb0
   obtain rfl:=Nat.eq_of_beq_eq_true h1
   obtain rfl:=Option.some.inj h
   exact Ku (fun e=>by subst e;exact Gj e00 ZV) (Gj e00 (dE l (Kv h3)))
  | false =>
  rw[hb0,cond_false] at h
  cases hb1:(Nat.beq f 339&&decide (t=IJ)&&fits l 32768) with
  | true =>
   rw[hb1,cond_true] at h
   simp only[Bool.and_eq_true,decide_eq_true_eq] at hb1
   obtain⟨⟨h1,rfl⟩,h3⟩:=hb1
   obtain rfl:=Nat.eq_of_beq_eq_true h1
   obtain rfl:=Option.some.inj h
   exact Ku (fun e=>by subst e;exact Gj e00 ZW) (Gj e00 (dF l (Kv h3)))
  | false =>
  rw[hb1,cond_false] at h
  cases hb2:(Nat.beq f 262&&decide (t=FU)&&fits l 32768) with
  | true =>
   rw[hb2,cond_true] at h
   simp only[Bool.and_eq_true,decide_eq_true_eq] at hb2
   obtain⟨⟨h1,rfl⟩,h3⟩:=hb2
   obtain rfl:=Nat.eq_of_beq_eq_true h1
   obtain rfl:=Option.some.inj h
   exact Ku (fun e=>by subst e;exact Gj e00 ZX) (Gj e00 (dG l (Kv h3)))
  | false =>
  rw[hb2,cond_false] at h
  cases hb3:(Nat.beq f 314&&decide (t=(.sl .u8))&&fits l 32768) with
  | true =>
   rw[hb3,cond_true] at h
   simp only[Bool.and_eq_true,decide_eq_true_eq] at hb3
   obtain⟨⟨h1,rfl⟩,h3⟩:=hb3
   obtain rfl:=Nat.eq_of_beq_eq_true h1
   obtain rfl:=Option.some.inj h
   exact Ku (fun e=>by subst e;exact Gj e00 ZY) (Gj e00 (dH l (Kv h3)))
  | false =>
  rw[hb3,cond_false] at h
  cases hb4:(Nat.beq f 312&&decide (t=(.i64))&&fits l 32768) with
  | true =>
   rw[hb4,cond_true] at h
   simp only[Bool.and_eq_true,decide_eq_true_eq] at hb4
   obtain⟨⟨h1,rfl⟩,h3⟩:=hb4
   obtain rfl:=Nat.eq_of_beq_eq_true h1
   obtain rfl:=Option.some.inj h
   exact Ku (fun e=>by subst e;exact Gj e00 ZZ) (Gj e00 (dI l (Kv h3)))
  | false =>
  rw[hb4,cond_false] at h
  cases h
 ·cases h
end
end Go.Proofs.YtanagnimhaemgaaGreatDoor
