/- Own texts of this claim: contracts of functions. -/
import Derived.Test.YtlpkjhhfhannpaaGreatDoorBtad
set_option linter.all false
set_option maxHeartbeats 40000000
set_option maxRecDepth 100000
namespace Go.Ax
open Go Go.Eng Go.RowKit
variable {α:Type}{l:List α}
def AC2(c n0 n1 n2 n3:Int):Prop:=∃ a b d,Yl c=some (a,b,d,n3)/\n0=(a:Nat)/\n1=(b:Nat)/\n2=(d:Nat)
theorem XJ{p:α->Prop}(h:∀ i:Int,0<=i->∀ x,Ap l i=some x->p x):∀ x∈l,p x:=by
 intro x hx
 obtain⟨n,hn,rfl⟩:=List.mem_iff_getElem.1 hx;exact h n zaa _ (JC hn)
theorem iy{p:α->Prop}{j:Int}{x0:α}(g:Ap l j=some x0)(hx:p x0)(h:∀ i:Int,j+1<=i->∀ x,Ap l i=some x->p x):∀ i:Int,j<=i->∀ x,Ap l i=some x->p x:=by
 intro i hi x hg
 by_cases hij:i=j
 ·subst hij;rw[g] at hg;cases hg;exact hx
 ·exact h i zaa x hg
theorem jE{p:α->Prop}{j:Int}(hj:(l.length:Int)<=j):∀ i:Int,j<=i->∀ x,Ap l i=some x->p x:=by
 intro i hi x hg
 rw[A0M (.inr zaa)] at hg
 cases hg
theorem AAT{c:Int}{hs:List Int}{az:List (El AB)}{is:List Int}{bs:List (List UInt8)}{n0 n1 n2 n3:Int}(hf:Few hs az is bs)(h:AC2 c n0 n1 n2 n3)(e0:(hs.length:Int)=n0)(e1:(az.length:Int)=n1)(e2:(is.length:Int)=n2)(e3:(bs.length:Int)=n3\/n3 = -1/\0<=(bs.length:Int)/\(bs.length:Int)<=8)(h0:∀ i:Int,0<=i->∀ x,Ap hs i=some x->0<=x/\x<=65535)(h1:∀ i:Int,0<=i->∀ x,Ap az i=some x->(0:Int)<=x.1/\(x.1:Int)<=65535)(h2:∀ i:Int,0<=i->∀ x,Ap is i=some x->0<=x/\x<=1099511627776)(h3:∀ x∈bs,x.length<=1024):Rok c hs az is bs:=by
 obtain⟨a,b,d,hq,rfl,rfl,rfl⟩:=h
 obtain rfl:hs.length=a:=zaa
 obtain rfl:az.length=b:=zaa
 obtain rfl:is.length=d:=zaa
 exact⟨hf,⟨n3,hq,by omega⟩,XJ h0,XJ h1,XJ h2,h3⟩
end Go.Ax
namespace Go.Proofs.YtlpkjhhfhannpaaGreatDoor
open Go Go.Ax Go.Eng
attribute [local irreducible] CS Cj CP CW CQ BC Cm ED ES Dx EG CJ Bi Ce CX and' Cf CU BL Au BI BP BR Ag Ai AY Ae D5 EJ D6 DX Cb BZ BQ BM BO BJ AZ BK Aj Ak Ap D7 BB CV BU BF CO D8 Cc fits D9 Ci AC AQ Ah
variable (c:Int)(hs:List Int)(az:List (El AB))(is:List Int)(bs:List (List UInt8))
theorem Eb:Y E0 (.call 90 [] [])=some (.ret (.agg [.i (-2),.i 0,.i 0,.i 0,.i 0,.i 0,.i 1,.i 0,.i 0,.i 0,.i 1,.i 0,.i (-2),.i 0,.i 0,.i 0,.i 0,.i 0,.i 0,.i 0,.i 0,.i 0,.i 2,.i 0,.i 0,.i 0,.i 1,.i 2,.i 0,.i 0,.i 1,.i 1,.i 0,.i 0,.i 1,.i 0,.i 1,.i 1,.i 3,.i 3,.i 1,.i 1,.i 3,.i 3,.i 1,.i 1,.i 0,.i 2,.i 0,.i 0,.i 1,.i 0,.i 1,.i 1,.i 0,.i 0,.i 1,.i 1,.i 0,.i 1,.i 1,.i 1,.i 2,.i 1,.i 0,.i 0,.i 1,.i 0,.i 0,.i 0,.i 6,.i (-1),.i 1,.i 1,.i 2,.i 1,.i 0,.i 0,.i 1,.i 3,.i 0,.i 0,.i 1,.i 0,.i 1,.i 1,.i 4,.i 2,.i 1,.i 1,.i 1,.i 0,.i 2,.i 1,.i 1,.i 1,.i 2,.i 1,.i 2,.i 0,.i 2,.i 1,.i 0,.i 0,.i 2,.i 1,.i 0,.i 1,.i 2,.i 1,.i 0,.i 1,.i 2,.i 1,.i 0,.i 0,.i 2,.i 1,.i 0,.i 0,.i 1,.i 1,.i 0,.i 1,.i 1,.i 1,.i 0,.i 0,.i 1,.i 1,.i 0,.i 0,.i 1,.i 1,.i 3,.i 0]) []):=by
 rw[AL]
 kernel_rfl
theorem pg:EC E0 (.call 49 [.i c] []) fun r=>∃(n0 n1 n2 n3:Int) (b:Bool),(b=true->AC2 c n0 n1 n2 n3)/\r=some (.ret (.tup [.agg [.i n0,.i n1,.i n2,.i n3],.b b]) []):=by
 refine G5 fun P hP=>?_
 rcases(by omega:c=0\/c=1\/c=2\/c=3\/c=4\/c=5\/c=6\/c=7\/c=8\/c=9\/c=10\/c=11\/c=12\/c=13\/c=14\/c=15\/c=16\/c=17\/c=18\/c=19\/c=20\/c=21\/c=22\/c=23\/c=24\/c=25\/c=26\/c=27\/c=28\/c=29\/c=30\/c=31\/c=32\/c=33\/¬(0<=c/\c<34)) with rfl|rfl|rfl|rfl|rfl|rfl|rfl|rfl|rfl|rfl|rfl|rfl|rfl|rfl|rfl|rfl|rfl|rfl|rfl|rfl|rfl|rfl|rfl|rfl|rfl|rfl|rfl|rfl|rfl|rfl|rfl|rfl|rfl|rfl|hc
 any_goals (refine tw ?_;rw[Eb];refine tw ?_;exact hP _ ⟨_,_,_,_,true,fun _=>⟨_,_,_,rfl,rfl,rfl,rfl⟩,rfl⟩)
 ·refine tw ?_;rw[Eb];refine tw ?_;refine hP _ ⟨0,0,0,0,false,?_,rfl⟩;(intro h;exact absurd h zaj)
 ·refine tw ?_;rw[Eb];refine tw ?_;refine hP _ ⟨0,0,0,0,false,?_,rfl⟩;(intro h;exact absurd h zaj)
 ·refine tw ?_;rw[Eb];refine tw ?_
  rcases Bc c 0 with hc0|hc0
  ·refine tw ?_;refine hP _ ⟨0,0,0,0,false,?_,rfl⟩;(intro h;exact absurd h zaj)
  refine tw ?_;refine hP _ ⟨0,0,0,0,false,?_,rfl⟩;(intro h;exact absurd h zaj)
theorem vY(w n:Int):EC E0 (.call 50 [.i w,.i n] []) fun r=>∃ b:Bool,(b=true->n=w\/w = -1/\0<=n/\n<=8)/\r=some (.ret (.b b) []):=by
 refine G5 fun P hP=>tw ?_
 rcases Ar n w with hc0|hc0
 ·subst hc0;refine tw ?_;exact hP _ ⟨true,AA,rfl⟩
 refine tw ?_
 rcases Ar w (-1) with hc1|hc1
 ·subst hc1;refine tw ?_
  rcases Gw 0 n with hc2|hc2
  ·refine tw ?_
   refine hP _ ⟨EG n 8,?_,rfl⟩;(intro hz;simp only[GY,Hl,decide_eq_true_eq,Bool.false_eq_true] at hz<;>omega)
  refine tw ?_
  refine hP _ ⟨false,?_,rfl⟩;(intro hz;simp only[GY,Hl,decide_eq_true_eq,Bool.false_eq_true] at hz<;>omega)
 refine tw ?_
 refine hP _ ⟨false,?_,rfl⟩;(intro hz;simp only[GY,Hl,decide_eq_true_eq,Bool.false_eq_true] at hz<;>omega)
theorem Ub(h:Int):EC E0 (.call 66 [.i h] []) fun r=>∃ b:Bool,(b=true->0<=h/\h<=65535)/\r=some (.ret (.b b) []):=by
 refine G5 fun P hP=>tw ?_
 rcases Gw 0 h with hc0|hc0
 ·refine tw ?_
  refine hP _ ⟨EG h 65535,?_,rfl⟩;(intro hz;simp only[GY,Hl,decide_eq_true_eq,Bool.false_eq_true] at hz<;>omega)
 refine tw ?_
 refine hP _ ⟨false,?_,rfl⟩;(intro hz;simp only[GY,Hl,decide_eq_true_eq,Bool.false_eq_true] at hz<;>omega)
theorem Ri(c:Int)(hs:List Int)(az:List (El AB))(is:List Int)(bs:List (List UInt8))(hf:Few hs az is bs):∀(n:Nat) (j:Int) (b:List UInt8),0<=j->j+n=hs.length->5<=b.length->(b.length:Int)<=5+2*j->EC E0 (.loop 25 0 0 2 [(1,.pa 0 0),(3,.nm 1),(4,.i j)] [(0,some (.var [.i c,.sl .i64 hs,.sl AB az,.sl .i64 is,.sl (.sl .u8) bs])),(1,some (.row 5 .u8 b))]) fun r=>∃ b:List UInt8,(5<=b.length/\b.length<=25)/\r=some (.fin (.exit 0) 2 [(1,.pa 0 0),(3,.nm 1)] [(0,some (.var [.i c,.sl .i64 hs,.sl AB az,.sl .i64 is,.sl (.sl .u8) bs])),(1,some (.row 5 .u8 b))])
 | 0,j,b,h0,hj,h5,hb=>by
  have hl:=hf.hl
  refine G5 fun P hP=>?_
  refine tw ?_;exact hP _ ⟨b,AA,rfl⟩
 | n+1,j,b,h0,hj,h5,hb=>by
  have hl:=hf.hl
  have ih:=fun b=>Ri c hs az is bs hf n (j+1) b zaa zaa
  refine G5 fun P hP=>?_
  refine tw ?_;obtain⟨x0,m0,g0⟩:=EO (l:=hs) (i:=j) zaa;rw[g0];refine tw ?_;rw[EN _ _ _ AA];refine tw ?_;exact hP _ (ih _ za2 za2)
theorem Rj(c:Int)(hs:List Int)(az:List (El AB))(is:List Int)(bs:List (List UInt8))(hf:Few hs az is bs):∀(n:Nat) (j:Int) (b:List UInt8),0<=j->j+n=az.length->5<=b.length->(b.length:Int)<=25+2010*j->EC E0 (.loop 25 1 0 2 [(1,.pa 0 0),(3,.nm 1),(5,.i j)] [(0,some (.var [.i c,.sl .i64 hs,.sl AB az,.sl .i64 is,.sl (.sl .u8) bs])),(1,some (.row 5 .u8 b))]) fun r=>∃ b:List UInt8,(5<=b.length/\b.length<=20125)/\r=some (.fin (.exit 2) 2 [(1,.pa 0 0),(3,.nm 1)] [(0,some (.var [.i c,.sl .i64 hs,.sl AB az,.sl .i64 is,.sl (.sl .u8) bs])),(1,some (.row 5 .u8 b))])
 | 0,j,b,h0,hj,h5,hb=>by
  have hl:=hf.al
  refine G5 fun P hP=>?_
  refine tw ?_;exact hP _ ⟨b,AA,rfl⟩
 | n+1,j,b,h0,hj,h5,hb=>by
  have hl:=hf.al
  have hm:=hf.am
  have ih:=fun b=>Rj c hs az is bs hf n (j+1) b zaa zaa
  refine G5 fun P hP=>?_
  refine tw ?_;obtain⟨⟨x0a,x0b,x0c⟩,f0,g0⟩:=JI hm (i:=j) AA;simp only[Gv,LZ,O7,O8,Jf,KA,KC,KD] at f0;rw[g0];refine tw ?_;rw[EN _ _ _ AA];refine tw ?_;rw[g0];refine tw ?_;rw[GK _ _ AA];refine tw ?_;rw[g0];refine tw ?_;rw[GK _ _ AA];refine tw ?_;exact hP _ (ih _ za2 za2)
theorem Rk(c:Int)(hs:List Int)(az:List (El AB))(is:List Int)(bs:List (List UInt8))(hf:Few hs az is bs):∀(n:Nat) (j:Int) (b:List UInt8),0<=j->j+n=is.length->5<=b.length->(b.length:Int)<=20125+8*j->EC E0 (.loop 25 2 0 2 [(1,.pa 0 0),(3,.nm 1),(6,.i j)] [(0,some (.var [.i c,.sl .i64 hs,.sl AB az,.sl .i64 is,.sl (.sl .u8) bs])),(1,some (.row 5 .u8 b))]) fun r=>∃ b:List UInt8,(5<=b.length/\b.length<=20205)/\r=some (.fin (.exit 4) 2 [(1,.pa 0 0),(3,.nm 1)] [(0,some (.var [.i c,.sl .i64 hs,.sl AB az,.sl .i64 is,.sl (.sl .u8) bs])),(1,some (.row 5 .u8 b))])
 | 0,j,b,h0,hj,h5,hb=>by
  have hl:=hf.il
  refine G5 fun P hP=>?_
  refine tw ?_;exact hP _ ⟨b,AA,rfl⟩
 | n+1,j,b,h0,hj,h5,hb=>by
  have hl:=hf.il
  have ih:=fun b=>Rk c hs az is bs hf n (j+1) b zaa zaa
  refine G5 fun P hP=>?_
  refine tw ?_;obtain⟨x0,m0,g0⟩:=EO (l:=is) (i:=j) zaa;rw[g0];refine tw ?_;rw[EN _ _ _ AA];refine tw ?_;exact hP _ (ih _ za2 za2)
theorem Rn(c:Int)(hs:List Int)(az:List (El AB))(is:List Int)(bs:List (List UInt8))(hf:Few hs az is bs):∀(n:Nat) (j:Int) (b:List UInt8),0<=j->j+n=bs.length->5<=b.length->(b.length:Int)<=20206+2004*j->EC E0 (.loop 25 3 0 2 [(1,.pa 0 0),(3,.nm 1),(7,.i j)] [(0,some (.var [.i c,.sl .i64 hs,.sl AB az,.sl .i64 is,.sl (.sl .u8) bs])),(1,some (.row 5 .u8 b))]) fun r=>∃ b:List UInt8,(5<=b.length/\b.length<=40246)/\r=some (.fin (.exit 6) 1 [(3,.nm 0)] [(0,some (.row 5 .u8 b))])
 | 0,j,b,h0,hj,h5,hb=>by
  have hl:=hf.bl
  refine G5 fun P hP=>?_
  refine tw ?_;exact hP _ ⟨b,AA,rfl⟩
 | n+1,j,b,h0,hj,h5,hb=>by
  have hl:=hf.bl
  have hm:=hf.bm
  have ih:=fun b=>Rn c hs az is bs hf n (j+1) b zaa zaa
  refine G5 fun P hP=>?_
  refine tw ?_;obtain⟨x0,f0,g0⟩:=JI hm (i:=j) AA;rw[g0];refine tw ?_;rw[GK _ _ AA];refine tw ?_;exact hP _ (ih _ za2 za2)
theorem ZF(hf:Few hs az is bs):EC E0 (.call 25 [rq c hs az is bs] []) fun r=>∃ l:List UInt8,(l.length<=100000)/\r=some (.ret (.nm 0) [some (.row 5 .u8 l)]):=by
 refine G5 fun P hP=>tw ?_
 obtain⟨b0,⟨h0_1,h0_2⟩,yy0⟩:=Ri c hs az is bs AA (Int.toNat (↑hs.length-(0))) 0 [UInt8.ofNat 83,UInt8.ofNat 87,UInt8.ofNat 0,UInt8.ofNat 0,DX c] AA zaa AA AA;refine Dv yy0 ?_;obtain⟨b1,⟨h1_1,h1_2⟩,yy1⟩:=Rj c hs az is bs AA (Int.toNat (↑az.length-(0))) 0 b0 AA zaa AA AA;refine Dv yy1 ?_;obtain⟨b2,⟨h2_1,h2_2⟩,yy2⟩:=Rk c hs az is bs AA (Int.toNat (↑is.length-(0))) 0 b1 AA zaa AA AA;refine Dv yy2 ?_;obtain⟨b3,⟨h3_1,h3_2⟩,yy3⟩:=Rn c hs az is bs AA (Int.toNat (↑bs.length-(0))) 0 (BF b2 [DX (Ak bs)]) AA zaa AA AA;refine Dv yy3 ?_;obtain⟨x4,m4,g4⟩:=EO (l:=b3) (i:=2) zaa;rw[g4];refine tw ?_;obtain⟨x5,m5,g5⟩:=EO (l:=BB b3 2 (DX (Bi (Ak b3) (UInt64.ofNat 8).toNat))) (i:=3) zaN;rw[g5];refine tw ?_;exact hP _ ⟨BB (BB b3 2 (DX (Bi (Ak b3) (UInt64.ofNat 8).toNat))) 3 (DX (Ak b3)),AA,rfl⟩
theorem Ro(c:Int)(hs:List Int)(az:List (El AB))(is:List Int)(bs:List (List UInt8))(hf:Few hs az is bs):∀(n:Nat) (j:Int),0<=j->j+n=az.length->EC E0 (.loop 67 0 0 1 [(1,.pa 0 0),(3,.i j)] [(0,some (.var [.i c,.sl .i64 hs,.sl AB az,.sl .i64 is,.sl (.sl .u8) bs]))]) fun r=>r=some (.fin .ret 1 [(1,.pa 0 0),(2,.b true)] [(0,some (.var [.i c,.sl .i64 hs,.sl AB az,.sl .i64 is,.sl (.sl .u8) bs]))])\/r=some (.fin (.exit 0) 1 [(1,.pa 0 0)] [(0,some (.var [.i c,.sl .i64 hs,.sl AB az,.sl .i64 is,.sl (.sl .u8) bs]))])
 | 0,j,h0,hj=>by
  have hl:=hf.al
  refine G5 fun P hP=>?_
  refine tw ?_;exact hP _ (Or.inr rfl)
 | n+1,j,h0,hj=>by
  have hl:=hf.al
  have hm:=hf.am
  have ih:=Ro c hs az is bs hf n (j+1) zaa zaa
  refine G5 fun P hP=>?_
  refine tw ?_;obtain⟨⟨x0a,x0b,x0c⟩,f0,g0⟩:=JI hm (i:=j) AA;simp only[Gv,LZ,O7,O8,Jf,KA,KC,KD] at f0;rw[g0];refine tw ?_
  rcases Bc 128 (↑(List.length x0b)) with hc1|hc1
  ·refine tw ?_;exact hP _ (Or.inl rfl)
  refine tw ?_;rw[g0];refine tw ?_
  rcases Bc 128 (↑(List.length x0c)) with hc2|hc2
  ·refine tw ?_;exact hP _ (Or.inl rfl)
  refine tw ?_;exact hP _ ih
theorem Rt(c:Int)(hs:List Int)(az:List (El AB))(is:List Int)(bs:List (List UInt8))(hf:Few hs az is bs):∀(n:Nat) (j:Int),0<=j->j+n=bs.length->EC E0 (.loop 67 1 0 1 [(1,.pa 0 0),(4,.i j)] [(0,some (.var [.i c,.sl .i64 hs,.sl AB az,.sl .i64 is,.sl (.sl .u8) bs]))]) fun r=>r=some (.fin .ret 1 [(1,.pa 0 0),(2,.b true)] [(0,some (.var [.i c,.sl .i64 hs,.sl AB az,.sl .i64 is,.sl (.sl .u8) bs]))])\/(∀ i:Int,j<=i->∀ x,Ap bs i=some x->x.length<=1024)/\r=some (.fin (.exit 2) 1 [(1,.pa 0 0)] [(0,some (.var [.i c,.sl .i64 hs,.sl AB az,.sl .i64 is,.sl (.sl .u8) bs]))])
 | 0,j,h0,hj=>by
  have hl:=hf.bl
  refine G5 fun P hP=>?_
  refine tw ?_;refine hP _ (Or.inr ⟨?_,rfl⟩);exact jE zaa
 | n+1,j,h0,hj=>by
  have hl:=hf.bl
  have hm:=hf.bm
  have ih:=Rt c hs az is bs hf n (j+1) zaa zaa
  refine G5 fun P hP=>?_
  refine tw ?_;obtain⟨x0,f0,g0⟩:=JI hm (i:=j) AA;rw[g0];refine tw ?_
  rcases Bc 1024 (↑x0.length) with hc1|hc1
  ·refine tw ?_;exact hP _ (Or.inl rfl)
  refine tw ?_;exact hP _ (ih.imp id fun h=>⟨iy (p:=fun x:List UInt8=>x.length<=1024) zbd zaa h.1,h.2⟩)
theorem vZ(hf:Few hs az is bs):EC E0 (.call 67 [rq c hs az is bs] []) fun r=>∃ b:Bool,(b=false->∀ x∈bs,x.length<=1024)/\r=some (.ret (.b b) []):=by
 refine G5 fun P hP=>tw ?_
 obtain(yy0|yy0):=Ro c hs az is bs AA (Int.toNat (↑az.length-(0))) 0 AA zaa
 ·refine Dv yy0 ?_;refine hP _ ⟨true,?_,rfl⟩;(intro h;cases h)
 refine Dv yy0 ?_
 obtain(yy1|⟨h1_0,yy1⟩):=Rt c hs az is bs AA (Int.toNat (↑bs.length-(0))) 0 AA zaa
 ·refine Dv yy1 ?_;refine hP _ ⟨true,?_,rfl⟩;(intro h;cases h)
 refine Dv yy1 ?_;obtain⟨l2,h2_1,yy2⟩:=ZF c hs az is bs AA;refine Dv yy2 ?_;refine hP _ ⟨Dx 2048 (Ak l2),?_,rfl⟩;exact fun _=>XJ zbd
theorem Uc(c:Int)(hs:List Int)(az:List (El AB))(is:List Int)(bs:List (List UInt8))(hf:Few hs az is bs):∀(n:Nat) (j:Int),0<=j->j+n=hs.length->EC E0 (.loop 24 0 0 1 [(1,.pa 0 0),(5,.i j)] [(0,some (.var [.i c,.sl .i64 hs,.sl AB az,.sl .i64 is,.sl (.sl .u8) bs]))]) fun r=>(∃ e:Int,(e≠0)/\r=some (.fin .ret 1 [(1,.pa 0 0),(2,.i e)] [(0,some (.var [.i c,.sl .i64 hs,.sl AB az,.sl .i64 is,.sl (.sl .u8) bs]))]))\/(∀ i:Int,j<=i->∀ x,Ap hs i=some x->0<=x/\x<=65535)/\r=some (.fin (.exit 0) 1 [(1,.pa 0 0)] [(0,some (.var [.i c,.sl .i64 hs,.sl AB az,.sl .i64 is,.sl (.sl .u8) bs]))])
 | 0,j,h0,hj=>by
  have hl:=hf.hl
  refine G5 fun P hP=>?_
  refine tw ?_;refine hP _ (Or.inr ⟨?_,rfl⟩);exact jE zaa
 | n+1,j,h0,hj=>by
  have hl:=hf.hl
  have ih:=Uc c hs az is bs hf n (j+1) zaa zaa
  refine G5 fun P hP=>?_
  refine tw ?_;obtain⟨x0,m0,g0⟩:=EO (l:=hs) (i:=j) zaa;rw[g0];refine tw ?_;obtain⟨b1,h1_1,yy1⟩:=Ub x0;refine Dv yy1 ?_
  rcases bo b1 with rfl|rfl
  ·replace h1_1:=h1_1 rfl
   refine tw ?_;exact hP _ (ih.imp id fun h=>⟨iy zbd za9 h.1,h.2⟩)
  refine tw ?_;exact hP _ (Or.inl ⟨1,AA,rfl⟩)
theorem Ud(c:Int)(hs:List Int)(az:List (El AB))(is:List Int)(bs:List (List UInt8))(hf:Few hs az is bs):∀(n:Nat) (j:Int),0<=j->j+n=az.length->EC E0 (.loop 24 1 0 1 [(1,.pa 0 0),(6,.i j)] [(0,some (.var [.i c,.sl .i64 hs,.sl AB az,.sl .i64 is,.sl (.sl .u8) bs]))]) fun r=>(∃ e:Int,(e≠0)/\r=some (.fin .ret 1 [(1,.pa 0 0),(2,.i e)] [(0,some (.var [.i c,.sl .i64 hs,.sl AB az,.sl .i64 is,.sl (.sl .u8) bs]))]))\/(∀ i:Int,j<=i->∀ x,Ap az i=some x->(0:Int)<=x.1/\(x.1:Int)<=65535)/\r=some (.fin (.exit 2) 1 [(1,.pa 0 0)] [(0,some (.var [.i c,.sl .i64 hs,.sl AB az,.sl .i64 is,.sl (.sl .u8) bs]))])
 | 0,j,h0,hj=>by
  have hl:=hf.al
  refine G5 fun P hP=>?_
  refine tw ?_;refine hP _ (Or.inr ⟨?_,rfl⟩);exact jE zaa
 | n+1,j,h0,hj=>by
  have hl:=hf.al
  have ih:=Ud c hs az is bs hf n (j+1) zaa zaa
  refine G5 fun P hP=>?_
  refine tw ?_;obtain⟨x0,m0,g0⟩:=EO (l:=az) (i:=j) zaa
  obtain⟨x0a,x0b,x0c⟩:=x0;rw[g0];refine tw ?_;obtain⟨b1,h1_1,yy1⟩:=Ub x0a;refine Dv yy1 ?_
  rcases bo b1 with rfl|rfl
  ·replace h1_1:=h1_1 rfl
   refine tw ?_;exact hP _ (ih.imp id fun h=>⟨iy zbd za9 h.1,h.2⟩)
  refine tw ?_;exact hP _ (Or.inl ⟨1,AA,rfl⟩)
theorem Ue(c:Int)(hs:List Int)(az:List (El AB))(is:List Int)(bs:List (List UInt8))(hf:Few hs az is bs):∀(n:Nat) (j:Int),0<=j->j+n=is.length->EC E0 (.loop 24 2 0 1 [(1,.pa 0 0),(7,.i j)] [(0,some (.var [.i c,.sl .i64 hs,.sl AB az,.sl .i64 is,.sl (.sl .u8) bs]))]) fun r=>(∃ e:Int,(e≠0)/\r=some (.fin .ret 1 [(1,.pa 0 0),(2,.i e)] [(0,some (.var [.i c,.sl .i64 hs,.sl AB az,.sl .i64 is,.sl (.sl .u8) bs]))]))\/(∀ i:Int,j<=i->∀ x,Ap is i=some x->0<=x/\x<=1099511627776)/\r=some (.fin (.exit 4) 1 [(1,.pa 0 0)] [(0,some (.var [.i c,.sl .i64 hs,.sl AB az,.sl .i64 is,.sl (.sl .u8) bs]))])
 | 0,j,h0,hj=>by
  have hl:=hf.il
  refine G5 fun P hP=>?_
  refine tw ?_;refine hP _ (Or.inr ⟨?_,rfl⟩);exact jE zaa
 | n+1,j,h0,hj=>by
  have hl:=hf.il
  have ih:=Ue c hs az is bs hf n (j+1) zaa zaa
  refine G5 fun P hP=>?_
  refine tw ?_;obtain⟨x0,m0,g0⟩:=EO (l:=is) (i:=j) zaa;rw[g0];refine tw ?_
  rcases Bc x0 0 with hc1|hc1
  ·refine tw ?_;exact hP _ (Or.inl ⟨1,AA,rfl⟩)
  refine tw ?_;rw[g0];refine tw ?_
  rcases Bc 1099511627776 x0 with hc2|hc2
  ·refine tw ?_;exact hP _ (Or.inl ⟨1,AA,rfl⟩)
  refine tw ?_;exact hP _ (ih.imp id fun h=>⟨iy (p:=fun x:Int=>0<=x/\x<=1099511627776) zbd za9 h.1,h.2⟩)
theorem pq(hf:Few hs az is bs):EC E0 (.call 24 [rq c hs az is bs] []) fun r=>∃ e:Int,(e=0->Rok c hs az is bs)/\r=some (.ret (.i e) []):=by
 refine G5 fun P hP=>tw ?_
 obtain⟨n00,n10_1,n20_2,n30_3,b0_4,h0_5,yy0⟩:=pg c;refine Dv yy0 ?_
 rcases bo b0_4 with rfl|rfl
 ·replace h0_5:=h0_5 rfl
  refine tw ?_
  rcases CE (↑hs.length) n00 with hc2|hc2
  ·refine tw ?_;exact hP _ ⟨1,AA,rfl⟩
  subst hc2;refine tw ?_
  rcases CE (↑az.length) n10_1 with hc3|hc3
  ·refine tw ?_;exact hP _ ⟨1,AA,rfl⟩
  subst hc3;refine tw ?_
  rcases CE (↑is.length) n20_2 with hc4|hc4
  ·refine tw ?_;exact hP _ ⟨1,AA,rfl⟩
  subst hc4;refine tw ?_;obtain⟨b5,h5_1,yy5⟩:=vY n30_3 (Ak bs);refine Dv yy5 ?_
  rcases bo b5 with rfl|rfl
  ·replace h5_1:=h5_1 rfl
   refine tw ?_
   obtain(⟨e7,h7_1,yy7⟩|⟨h7_2,yy7⟩):=Uc c hs az is bs AA (Int.toNat (↑hs.length-(0))) 0 AA zaa
   ·refine Dv yy7 ?_;exact hP _ ⟨e7,AA,rfl⟩
   refine Dv yy7 ?_
   obtain(⟨e8,h8_1,yy8⟩|⟨h8_2,yy8⟩):=Ud c hs az is bs AA (Int.toNat (↑az.length-(0))) 0 AA zaa
   ·refine Dv yy8 ?_;exact hP _ ⟨e8,AA,rfl⟩
   refine Dv yy8 ?_
   obtain(⟨e9,h9_1,yy9⟩|⟨h9_2,yy9⟩):=Ue c hs az is bs AA (Int.toNat (↑is.length-(0))) 0 AA zaa
   ·refine Dv yy9 ?_;exact hP _ ⟨e9,AA,rfl⟩
   refine Dv yy9 ?_;obtain⟨b10,h10_1,yy10⟩:=vZ c hs az is bs AA;refine Dv yy10 ?_
   rcases bo b10 with rfl|rfl
   ·refine tw ?_;exact hP _ ⟨4,AA,rfl⟩
   replace h10_1:=h10_1 rfl
   refine tw ?_;refine hP _ ⟨0,?_,rfl⟩;exact fun _=>AAT hf zbd zaa zaa zaa (by simp only[AP] at *;omega) zbd zbd zbd zbd
  refine tw ?_;exact hP _ ⟨1,AA,rfl⟩
 refine tw ?_;exact hP _ ⟨6,AA,rfl⟩
end Go.Proofs.YtlpkjhhfhannpaaGreatDoor
