/-
  Own texts, laid together for this claim: contracts of functions of the program and its references, used by the statements of this seat.
-/
import Derived.Test.YtanagnimhaemgaaGreatDoorMtab
import Derived.Test.YtanagnimhaemgaaGreatDoorMtac
import Derived.Test.YtanagnimhaemgaaGreatDoorMtad
import Derived.Test.YtanagnimhaemgaaGreatDoorMtaf
import Derived.Test.YtanagnimhaemgaaGreatDoorMtag
import Derived.Test.YtanagnimhaemgaaGreatDoorMtaj
import Derived.Test.YtanagnimhaemgaaGreatDoorMtan
import Derived.Test.YtanagnimhaemgaaGreatDoorMtas
set_option linter.all false
set_option maxHeartbeats 40000000
set_option maxRecDepth 100000
namespace Go.Ax
open Go.Eng
noncomputable def selJ(s:Int)(b:List (List UInt8)):Nat->List UInt8
 | 0=>[]
 | j+1=>selJ s b j++(if BJ .and (Bc s (Bf ((j:Nat):Int)).toNat) 1=1 then b.getD j [] else [])
theorem selJ_le{s:Int}{b:List (List UInt8)}(h:∀ x∈b,x.length<=1000):∀ j,(selJ s b j).length<=1000*j
 | 0=>by simp[selJ]
 | j+1=>by
  have ih:=selJ_le (s:=s) h j
  rw[selJ,List.length_append]
  split
  ·have hb:(b.getD j []).length<=1000:=by
    by_cases hj:j<b.length
    ·have:=h _ (List.getElem_mem hj)
     simpa [List.getD,List.getElem?_eq_getElem hj] using this
    ·simp[List.getD,List.getElem?_eq_none (show b.length<=j by omega)]
   omega
  ·simp only[List.length_nil];omega
noncomputable def selB(s:Int)(b:List (List UInt8)):List UInt8:=selJ s b 16
noncomputable def digR(s0 s1:Int)(b0 b1:List (List UInt8)):List UInt8:=sha256 (Bh 5 [Bz (Bz [] 2 s0) 2 s1,selB s0 b0++selB s1 b1])
end Go.Ax
namespace Go.Proofs.YtanagnimhaemgaaGreatDoor
open Go Go.Ax Go.Eng
section
attribute [local irreducible] BL BM BN BO BP BJ BQ CX Cm CY CW Ba Bc BF BC and' BG Bd Aa Ac Ad Ae Af AL AO AP AQ BR D8 BU D5 Be Bf Ag Ah Ai Aj AB AZ AU Ar BA BV BH BB Au Aw BI Bg BX fits BZ BK A7 A8 AC
attribute [local irreducible] D7 CG CQ nameB Dh Dv Bh
theorem ex_r8dig_l0(b0 b1:List (List UInt8))(u s0 s1:Int):Rets E0 (.loop 32 0 0 2 [(2,AV.pa 0 0),(3,AV.pa 1 0),(6,AV.i 0)] [(0,some (Rs.var [AV.sl Ty.u8.sl.sl [b0,b1],AV.i u])),(1,some (Rs.var [AV.i s0,AV.i s1]))]) fun r=>(¬(0<=s0/\s0<=65535/\0<=s1/\s1<=65535)/\r=some (.fin .ret 2 [(2,.pa 0 0),(3,.pa 1 0),(4,.nil),(5,.i 1)] [(0,some (Rs.var [AV.sl Ty.u8.sl.sl [b0,b1],AV.i u])),(1,some (Rs.var [AV.i s0,AV.i s1]))]))\/((0<=s0/\s0<=65535/\0<=s1/\s1<=65535)/\r=some (.fin (.exit 0) 2 [(2,.pa 0 0),(3,.pa 1 0)] [(0,some (Rs.var [AV.sl Ty.u8.sl.sl [b0,b1],AV.i u])),(1,some (Rs.var [AV.i s0,AV.i s1]))])):=by
 refine byP fun P hP=>?_
 refine tw ?_
 rcases ilt_c s0 0 with hc0|hc0
 ·refine tw ?_;exact hP _ (Or.inl ⟨NE,rfl⟩)
 refine tw ?_
 rcases ilt_c 65535 s0 with hc1|hc1
 ·refine tw ?_;exact hP _ (Or.inl ⟨NE,rfl⟩)
 refine tw ?_;refine tw ?_
 rcases ilt_c s1 0 with hc2|hc2
 ·refine tw ?_;exact hP _ (Or.inl ⟨NE,rfl⟩)
 refine tw ?_
 rcases ilt_c 65535 s1 with hc3|hc3
 ·refine tw ?_;exact hP _ (Or.inl ⟨NE,rfl⟩)
 refine tw ?_;refine tw ?_;exact hP _ (Or.inr ⟨NE,rfl⟩)
theorem bits0:∀ i<16,BJ .and (Bc 0 (Bf ((i:Nat):Int)).toNat) 1=0:=by
 rw[aZ,ah,ak]
 decide +kernel
theorem ev_r8dig_i0(b0 b1:List (List UInt8))(u s0 s1:Int)(acc:List UInt8)(ha:acc.length<=20000)(h:s0=0\/b0.length=16)(hm:∀ x∈b0,x.length<=1000):∀(n j:Nat),j+n=16->Y E0 (.loop 32 2 0 3 [(2,AV.pa 0 0),(3,AV.pa 1 0),(7,AV.nm 2),(8,AV.i 0),(9,AV.i (j:Int))] [(0,some (Rs.var [AV.sl Ty.u8.sl.sl [b0,b1],AV.i u])),(1,some (Rs.var [AV.i s0,AV.i s1])),(2,some (Rs.row 5 Ty.u8 (acc++selJ s0 b0 j)))])=some (.fin (.exit 4) 3 [(2,AV.pa 0 0),(3,AV.pa 1 0),(7,AV.nm 2),(8,AV.i 0)] [(0,some (Rs.var [AV.sl Ty.u8.sl.sl [b0,b1],AV.i u])),(1,some (Rs.var [AV.i s0,AV.i s1])),(2,some (Rs.row 5 Ty.u8 (acc++selB s0 b0)))])
 | 0,j,hj=>by
  obtain rfl:j=16:=zf
  refine tq ?_
  rfl
 | n+1,j,hj=>by
  have ih:=ev_r8dig_i0 b0 b1 u s0 s1 acc ha h hm n (j+1) zf
  rw[show((j+1:Nat):Int)=(j:Int)+1 from by omega,selJ] at ih
  have hle:=selJ_le (s:=s0) hm j
  by_cases hb:BJ .and (Bc s0 (Bf ((j:Nat):Int)).toNat) 1=1
  ·have hs:b0.length=16:=by
    rcases h with h|h
    ·subst h;rw[bits0 j zf] at hb;cases hb
    ·exact h
   rw[if_pos hb,<-List.append_assoc] at ih
   have hg:BA b0 (j:Int)=some (b0.getD j []):=by rw[lget_n zf];simp[List.getD,List.getElem?_eq_getElem (show j<b0.length by omega)]
   have hx:(b0.getD j []).length<=1000:=by
    have:=hm _ (List.getElem_mem (show j<b0.length by omega))
    simpa [List.getD,List.getElem?_eq_getElem (show j<b0.length by omega)] using this
   have happ:Aw (acc++selJ s0 b0 j) (b0.getD j [])=acc++selJ s0 b0 j++b0.getD j []:=UH _ _
   rw[JB];conv=>lhs;whnf
   rw[fH zf]
   conv=>lhs;whnf
   try dsimp -iota -beta -eta -zeta only
   rw[fK zf]
   conv=>lhs;whnf
   rw[fH zf]
   conv=>lhs;whnf
   rw[fD hb];refine to ?_;rw[hg];refine tq ?_;rw[happ];exact ih
  ·rw[if_neg hb,List.append_nil] at ih
   rw[JB];conv=>lhs;whnf
   rw[fH zf]
   conv=>lhs;whnf
   try dsimp -iota -beta -eta -zeta only
   rw[fK zf]
   conv=>lhs;whnf
   rw[fH zf]
   conv=>lhs;whnf
   rw[fE hb];refine tq ?_;exact ih
theorem ev_r8dig_i1(b0 b1:List (List UInt8))(u s0 s1:Int)(acc:List UInt8)(ha:acc.length<=20000)(h:s1=0\/b1.length=16)(hm:∀ x∈b1,x.length<=1000):∀(n j:Nat),j+n=16->Y E0 (.loop 32 2 0 3 [(2,AV.pa 0 0),(3,AV.pa 1 0),(7,AV.nm 2),(8,AV.i 1),(9,AV.i (j:Int))] [(0,some (Rs.var [AV.sl Ty.u8.sl.sl [b0,b1],AV.i u])),(1,some (Rs.var [AV.i s0,AV.i s1])),(2,some (Rs.row 5 Ty.u8 (acc++selJ s1 b1 j)))])=some (.fin (.exit 4) 3 [(2,AV.pa 0 0),(3,AV.pa 1 0),(7,AV.nm 2),(8,AV.i 1)] [(0,some (Rs.var [AV.sl Ty.u8.sl.sl [b0,b1],AV.i u])),(1,some (Rs.var [AV.i s0,AV.i s1])),(2,some (Rs.row 5 Ty.u8 (acc++selB s1 b1)))])
 | 0,j,hj=>by
  obtain rfl:j=16:=zf
  refine tq ?_
  rfl
 | n+1,j,hj=>by
  have ih:=ev_r8dig_i1 b0 b1 u s0 s1 acc ha h hm n (j+1) zf
  rw[show((j+1:Nat):Int)=(j:Int)+1 from by omega,selJ] at ih
  have hle:=selJ_le (s:=s1) hm j
  by_cases hb:BJ .and (Bc s1 (Bf ((j:Nat):Int)).toNat) 1=1
  ·have hs:b1.length=16:=by
    rcases h with h|h
    ·subst h;rw[bits0 j zf] at hb;cases hb
    ·exact h
   rw[if_pos hb,<-List.append_assoc] at ih
   have hg:BA b1 (j:Int)=some (b1.getD j []):=by rw[lget_n zf];simp[List.getD,List.getElem?_eq_getElem (show j<b1.length by omega)]
   have hx:(b1.getD j []).length<=1000:=by
    have:=hm _ (List.getElem_mem (show j<b1.length by omega))
    simpa [List.getD,List.getElem?_eq_getElem (show j<b1.length by omega)] using this
   have happ:Aw (acc++selJ s1 b1 j) (b1.getD j [])=acc++selJ s1 b1 j++b1.getD j []:=UH _ _
   rw[JB];conv=>lhs;whnf
   rw[fH zf]
   conv=>lhs;whnf
   try dsimp -iota -beta -eta -zeta only
   rw[fK zf]
   conv=>lhs;whnf
   rw[fH zf]
   conv=>lhs;whnf
   rw[fD hb];refine to ?_;rw[hg];refine tq ?_;rw[happ];exact ih
  ·rw[if_neg hb,List.append_nil] at ih
   rw[JB];conv=>lhs;whnf
   rw[fH zf]
   conv=>lhs;whnf
   try dsimp -iota -beta -eta -zeta only
   rw[fK zf]
   conv=>lhs;whnf
   rw[fH zf]
   conv=>lhs;whnf
   rw[fE hb];refine tq ?_;exact ih
theorem selB_le{s:Int}{b:List (List UInt8)}(h:∀ x∈b,x.length<=1000):(selB s b).length<=16000:=selJ_le h 16
theorem ex_r8dig_l1(b0 b1:List (List UInt8))(u s0 s1:Int)(h0:b0=[]\/dX 20 b0)(h1:b1=[]\/dX 32 b1):Rets E0 (.loop 32 1 0 3 [(2,AV.pa 0 0),(3,AV.pa 1 0),(7,AV.nm 2),(8,AV.i 0)] [(0,some (Rs.var [AV.sl Ty.u8.sl.sl [b0,b1],AV.i u])),(1,some (Rs.var [AV.i s0,AV.i s1])),(2,some (Rs.row 5 Ty.u8 []))]) fun r=>(∃ x:List UInt8,(¬((s0=0\/0<b0.length)/\(s1=0\/0<b1.length)))/\r=some (.fin .ret 1 [(3,AV.pa 0 0),(4,AV.nil),(5,AV.i 27),(7,AV.sl Ty.u8 x)] [(0,some (Rs.var [AV.i s0,AV.i s1]))]))\/(((s0=0\/0<b0.length)/\(s1=0\/0<b1.length))/\r=some (.fin (.exit 2) 1 [(3,AV.pa 0 0),(7,AV.sl Ty.u8 (selB s0 b0++selB s1 b1))] [(0,some (Rs.var [AV.i s0,AV.i s1]))])):=by
 have q0:=bk_16 h0
 have q1:=bk_16 h1
 have k0:=(bk_le h0 zh).2
 have k1:=(bk_le h1 zh).2
 have e0:=fun h=>ev_r8dig_i0 b0 b1 u s0 s1 [] zB h k0 16 0 zf
 have e1:=fun h=>ev_r8dig_i1 b0 b1 u s0 s1 (selB s0 b0) (by have:=selB_le (s:=s0) k0;omega) h k1 16 0 zf
 simp only[List.nil_append,show selJ s0 b0 0=[] from rfl,show selJ s1 b1 0=[] from rfl,List.append_nil,show((0:Nat):Int)=0 from rfl] at e0 e1
 refine byP fun P hP=>?_
 refine tw ?_
 rcases ine_c s0 0 with hc0|hc0
 ·refine tw ?_;rw[ev_r8act0 _ _ _ NE];refine tw ?_
  rcases Decidable.em (0<b0.length) with hc1|hc1
  ·refine tw ?_;rw[e0 zf];refine tw ?_;refine tw ?_
   rcases ine_c s1 0 with hc2|hc2
   ·refine tw ?_;rw[ev_r8act1 _ _ _ _ NE];refine tw ?_
    rcases Decidable.em (0<b1.length) with hc3|hc3
    ·refine tw ?_;rw[e1 zf];refine tw ?_;refine tw ?_;exact hP _ (Or.inr ⟨NE,rfl⟩)
    refine tw ?_;exact hP _ (Or.inl ⟨selB s0 b0,NE,rfl⟩)
   subst hc2;refine tw ?_;rw[e1 zf];refine tw ?_;refine tw ?_;exact hP _ (Or.inr ⟨NE,rfl⟩)
  refine tw ?_;exact hP _ (Or.inl ⟨[],NE,rfl⟩)
 subst hc0;refine tw ?_;rw[e0 zf];refine tw ?_;refine tw ?_
 rcases ine_c s1 0 with hc4|hc4
 ·refine tw ?_;rw[ev_r8act1 _ _ _ _ NE];refine tw ?_
  rcases Decidable.em (0<b1.length) with hc5|hc5
  ·refine tw ?_;rw[e1 zf];refine tw ?_;refine tw ?_;exact hP _ (Or.inr ⟨NE,rfl⟩)
  refine tw ?_;exact hP _ (Or.inl ⟨selB 0 b0,NE,rfl⟩)
 subst hc4;refine tw ?_;rw[e1 zf];refine tw ?_;refine tw ?_;exact hP _ (Or.inr ⟨NE,rfl⟩)
end
section
attribute [local irreducible] BL BM BN BO BP BJ BQ CX Cm CY CW Ba Bc BF BC and' BG Bd Aa Ac Ad Ae Af AL AO AP AQ BR D8 BU D5 Be Bf Ag Ah Ai Aj AB AZ AU Ar BA BV BH BB Au Aw BI Bg BX fits BZ BK A7 A8 AC
attribute [local irreducible] D7 CG CQ nameB Dh Dv Bh Dp Dt Dn Di Ef Bz Fe Eo FY GH Ff
theorem lemp_c{α:Type}(x:α)(l:List α):BX (x::l)=false:=by rw[ay];rfl
theorem ev_clse(x1 x4 x5 x6 x7:Int)(x2 x3:List UInt8)(x8:Bool)(l:List (El Gi))(hl:l.length<=1000):Y E0 (.call 208 [.sl Gi ((x1,x2,x3,x4,x5,x6,x7,x8)::l)] [])=some (.ret (.nm 0) [some (.row 256 Gi ((x1,x2,x3,x4,x5,x6,x7,x8)::l))]):=by
 refine tq ?_
 rw[lemp_c]
 conv=>lhs;whnf
 refine tq ?_
 simp only[NO];try with_reducible rfl
variable (sd au:List (List UInt8))(en:List UInt8)(ac re rs ck:Int)(od:Bool)(sb:List (List (List UInt8)))(su mc:Int)(ix:List (El FU))(l1 l2 l3 l4 l5 l6:Int)(ks:List (El IJ))(st sp:Bool)(rb:List (List (List UInt8)))(ru vc:Int)(sf:Bool)(dr:Int)(ss:List (El Gi))(ob:List (El objT))(rl wl:List Int)
theorem ev_sfind_t(h:Int)(x1 x4 x5 x6 x7:Int)(x2 x3:List UInt8)(x8:Bool)(hl:ss.length<=1000)(hh:0<=h-768/\h-768<ss.length)(hg:BA ss (h-768)=some (x1,x2,x3,x4,x5,x6,x7,x8))(hz:x1≠0):Y E0 (.call 234 [(sX sd au en ac re rs ck od sb su mc ix l1 l2 l3 l4 l5 l6 ks st sp rb ru vc sf dr ss ob rl wl),.i h] [])=some (.ret (.tup [.i (h-768),nP x1 x2 x3 x4 x5 x6 x7 x8,.b true]) []):=by
 refine tq ?_
 rw[hg]
 conv=>lhs;whnf
 refine tq ?_
 rw[hg]
 conv=>lhs;whnf
 refine tq ?_
 with_reducible rfl
theorem ev_sput(k:Int)(y1 y4 y5 y6 y7:Int)(y2 y3:List UInt8)(y8:Bool)(hl:ss.length<=1000)(hk:0<=k/\k<ss.length):Y E0 (.call 276 [(sX sd au en ac re rs ck od sb su mc ix l1 l2 l3 l4 l5 l6 ks st sp rb ru vc sf dr ss ob rl wl),.i k,nP y1 y2 y3 y4 y5 y6 y7 y8] [])=some (.ret ((sX sd au en ac re rs ck od sb su mc ix l1 l2 l3 l4 l5 l6 ks st sp rb ru vc sf dr (BH ss k (y1,y2,y3,y4,y5,y6,y7,y8)) ob rl wl)) []):=by
 obtain⟨⟨x1,x2,x3,x4,x5,x6,x7,x8⟩,l,rfl⟩:∃ x l,ss=x::l:=by cases ss with|nil=>simp at hk;omega|cons x l=>exact⟨x,l,rfl⟩
 rw[List.length_cons] at hl
 refine tq ?_
 rw[ev_clse _ _ _ _ _ _ _ _ _ zf]
 conv=>lhs;whnf
 rw[bY zf]
 conv=>lhs;whnf
 rw[lget_i zf]
 conv=>lhs;whnf
theorem ev_sclose_t(h:Int)(x1 x4 x5 x6 x7:Int)(x2 x3:List UInt8)(x8:Bool)(hl:ss.length<=1000)(hh:0<=h-768/\h-768<ss.length)(hg:BA ss (h-768)=some (x1,x2,x3,x4,x5,x6,x7,x8))(hz:x1≠0):Y E0 (.call 209 [(sX sd au en ac re rs ck od sb su mc ix l1 l2 l3 l4 l5 l6 ks st sp rb ru vc sf dr ss ob rl wl),.i h] [])=some (.ret (.tup [(sX sd au en ac re rs ck od sb su mc ix l1 l2 l3 l4 l5 l6 ks st sp rb ru vc sf dr (BH ss (h-768) ses0) ob rl wl),.i 0]) []):=by
 refine tq ?_
 rw[ev_sfind_t _ _ _ _ _ _ _ _ _ _ _ _ _ _ _ _ _ _ _ _ _ _ _ _ _ _ _ _ _ _ _ _ _ _ _ _ _ _ _ hl hh hg hz]
 refine tq ?_
 rw[ev_sput _ _ _ _ _ _ _ _ _ _ _ _ _ _ _ _ _ _ _ _ _ _ _ _ _ _ _ _ _ _ _ _ _ _ _ _ _ _ _ hl hh]
 refine tq ?_
 rfl
end
section
attribute [local irreducible] BL BM BN BO BP BJ BQ CX Cm CY CW Ba Bc BF BC and' BG Bd Aa Ac Ad Ae Af AL AO AP AQ BR D8 BU D5 Be Bf Ag Ah Ai Aj AB AZ AU Ar BA BV BH BB Au Aw BI Bg BX fits BZ BK A7 A8 AC
theorem hierB2_len:(hierB 2).length=32:=by rw[hierB,if_neg zf];exact Gu _
theorem ev_r20d_l0(c:Int)(hs:List Int)(az:List (El MR))(is:List Int)(bs:List (List UInt8))(x:List UInt8)(hx:x.length=32):Y E0 (.loop 18 0 0 2 [(0,.sl (.sl .u8) [x]),(3,.pa 0 0),(5,.nm 1),(6,.nil),(7,.i 0)] [(0,some (.var [.i c,.sl .i64 hs,.sl MR az,.sl .i64 is,.sl (.sl .u8) bs])),(1,some (.row 5 .u8 []))])=some (.fin (.exit 0) 1 [(3,.pa 0 0),(5,.sl .u8 (Aw [] x)),(6,.nil)] [(0,some (.var [.i c,.sl .i64 hs,.sl MR az,.sl .i64 is,.sl (.sl .u8) bs]))]):=by
 have hl:Ar ([x]:List (List UInt8))=1:=by rw[QP];rfl
 rw[JB]
 conv=>lhs;whnf
 rw[hl]
 refine tq ?_
 rw[JB]
 conv=>lhs;whnf
 rw[hl]
 exact tq rfl
theorem ev_r20d_l1(c:Int)(hs:List Int)(az:List (El MR))(bs:List (List UInt8))(al:List UInt8):Y E0 (.loop 18 1 0 1 [(3,.pa 0 0),(5,.sl .u8 al),(6,.nil),(8,.i 0)] [(0,some (.var [.i c,.sl .i64 hs,.sl MR az,.sl .i64 [1,2,3,8],.sl (.sl .u8) bs]))])=some (.fin (.exit 2) 1 [(3,.pa 0 0),(5,.sl .u8 al),(6,.sl .u8 (Bz (Bz (Bz (Bz [] 8 1) 8 2) 8 3) 8 8))] [(0,some (.var [.i c,.sl .i64 hs,.sl MR az,.sl .i64 [1,2,3,8],.sl (.sl .u8) bs]))]):=by
 have hl:Ar ([1,2,3,8]:List Int)=4:=by rw[QP];rfl
 have g3:BA ([1,2,3,8]:List Int) 3=some 8:=by rw[lget_i zh];rfl
 rw[JB]
 conv=>lhs;whnf
 rw[hl]
 refine tq ?_
 rw[ev_r3uint _ _ _ NE]
 refine tq ?_
 rw[JB]
 conv=>lhs;whnf
 rw[hl]
 conv=>lhs;whnf
 rw[fH zf]
 conv=>lhs;whnf
 rw[lget_i zh]
 conv=>lhs;whnf
 try dsimp -iota -beta -eta -zeta only
 rw[OQ]
 rw[ev_r3uint _ _ _ NE]
 refine tq ?_
 rw[JB]
 conv=>lhs;whnf
 rw[hl]
 conv=>lhs;whnf
 rw[fH zf]
 conv=>lhs;whnf
 rw[lget_i zh]
 conv=>lhs;whnf
 try dsimp -iota -beta -eta -zeta only
 rw[OQ]
 rw[ev_r3uint _ _ _ NE]
 refine tq ?_
 rw[JB]
 conv=>lhs;whnf
 rw[hl]
 conv=>lhs;whnf
 rw[fH zf]
 conv=>lhs;whnf
 rw[lget_i zh]
 conv=>lhs;whnf
 try dsimp -iota -beta -eta -zeta only
 rw[OQ]
 rw[ev_r3uint _ _ _ NE]
 refine tq ?_
 rw[JB]
 conv=>lhs;whnf
 rw[hl]
 refine tq ?_
 rfl
theorem ints21:Bz (Bz (Bz (Bz [] 8 1) 8 2) 8 3) 8 8=[1,2,3,8].flatMap n8:=by
 simp only[uint_n8,List.flatMap_cons,List.flatMap_nil,List.append_nil,List.append_assoc];rfl
theorem ev_r20dig(az:List (El MR)):Y E0 (.call 18 [.sl (.sl .u8) [hierB 2],rq 21 [2] az [1,2,3,8] [[],[]]] [])=some (.ret (.sl .u8 (cmdB 21 [hierB 2] [1,2,3,8] [[],[]])) []):=by
 have hx:=hierB2_len
 have q0:=ev_r20d_l0 21 [2] az [1,2,3,8] [[],[]] (hierB 2) hx
 have q1:=ev_r20d_l1 21 [2] az [[],[]] (Aw [] (hierB 2))
 have e1:Aw [[D5 21],Aw [] (hierB 2),Bz (Bz (Bz (Bz [] 8 1) 8 2) 8 3) 8 8] [[],[]]=[D5 21]::[hierB 2].flatten::[1,2,3,8].flatMap n8::[[],[]]:=by
  rw[ints21,UH,UH];simp
 refine tq ?_
 rw[q0]
 refine tq ?_
 rw[q1]
 refine tq ?_
 rw[e1]
 conv=>lhs;whnf
 rw[ev_ref_frame _ _ NE NE]
 refine tq ?_
 rw[ev_sum256 _ NE]
 refine tq ?_
 (rw[cmdB])
theorem ev_r20mac(v d x y:List UInt8)(hv:v.length<=2000)(hd:d.length<=2000)(hx:x.length<=2000)(hy:y.length<=2000):Y E0 (.call 20 [.sl .u8 v,.sl .u8 d,.sl .u8 x,.sl .u8 y] [])=some (.ret (.sl .u8 (dR v (Bh 10 [d,x,y]))) []):=by
 refine tq ?_
 rw[ev_ref_frame _ _ NE NE]
 refine tq ?_
 rw[ev_rmac _ _ NE NE]
 exact tq rfl
end
end Go.Proofs.YtanagnimhaemgaaGreatDoor
