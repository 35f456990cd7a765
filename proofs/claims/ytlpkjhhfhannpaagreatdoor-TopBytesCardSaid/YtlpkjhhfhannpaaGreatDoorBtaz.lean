/- Own texts of this claim: contracts of functions. -/
import Derived.Test.YtlpkjhhfhannpaaGreatDoorBtag
import Derived.Test.YtlpkjhhfhannpaaGreatDoorBtav
set_option linter.all false
set_option maxHeartbeats 40000000
set_option maxRecDepth 100000
namespace Go.Proofs.YtlpkjhhfhannpaaGreatDoor
open Go Go.Ax Go.Eng
attribute [local irreducible] CS Cj CP CW CQ BC Cm ED ES Dx EG CJ Bi Ce CX and' Cf CU BL Au BI BP BR Ag Ai AY Ae D5 EJ D6 DX Cb BZ BQ BM BO BJ AZ BK Aj Ak Ap D7 BB CV BU BF CO D8 Cc fits D9 Ci AC AQ Ah
variable (b:List (List UInt8))(u i:Int)
theorem wV:Y E0 (.loop 290 1 0 3 [(2,.pa 0 0),(3,.pa 1 0),(6,.nm 2),(13,.sl (.sl (.sl .u8)) [[],b]),(14,.i (Ak [[],b])),(15,.i 0),(19,.sl (.sl .u8) []),(20,.i (Ak ([]:List (List UInt8)))),(21,.i 0)] [(0,some (.var [.nil,.i 0])),(1,some (.var [.nil,.i u])),(2,some (.row 22 (.sl .u8) []))])=some (.fin (.exit 2) 3 [(2,.pa 0 0),(3,.pa 1 0),(6,.nm 2),(13,.sl (.sl (.sl .u8)) [[],b]),(14,.i (Ak [[],b])),(15,.i 0)] [(0,some (.var [.nil,.i 0])),(1,some (.var [.nil,.i u])),(2,some (.row 22 (.sl .u8) []))]):=by
 have e:Ak ([]:List (List UInt8))=0:=zaV
 rw[e]
 rw[AL];conv=>lhs;whnf
 refine tq ?_
 with_reducible rfl
theorem ZU(b:List (List UInt8))(u:Int)(h:Eg 32 b):∀(k j:Nat),j+k=16->Y E0 (.loop 290 1 0 5 [(2,.pa 0 0),(3,.pa 1 0),(6,.nm 2),(13,.sl (.sl (.sl .u8)) [[],b]),(14,.i (Ak [[],b])),(15,.i 1),(19,.sl (.sl .u8) b),(20,.i (Ak b)),(21,.i (j:Int))] [(0,some (.var [.nil,.i 0])),(1,some (.var [.nm 3,.i u])),(2,some (.row 22 (.sl .u8) (b.take j))),(3,some (.rowA 24 1 1 [.nm 4])),(4,some (.row 22 (.sl .u8) []))])=some (.fin (.exit 2) 5 [(2,.pa 0 0),(3,.pa 1 0),(6,.nm 2),(13,.sl (.sl (.sl .u8)) [[],b]),(14,.i (Ak [[],b])),(15,.i 1)] [(0,some (.var [.nil,.i 0])),(1,some (.var [.nm 3,.i u])),(2,some (.row 22 (.sl .u8) b)),(3,some (.rowA 24 1 1 [.nm 4])),(4,some (.row 22 (.sl .u8) []))])
 | 0,j,hj=>by
  have hb:=h.1
  have hl:Ak b=16:=by rw[AP,hb];rfl
  obtain rfl:j=16:=zaa
  rw[List.take_of_length_le zaa]
  rw[AL];conv=>lhs;whnf
  refine tq ?_
  with_reducible rfl
 | k+1,j,hj=>by
  have hb:=h.1
  have hl:Ak b=16:=by rw[AP,hb];rfl
  have hg:Ap b (j:Int)=some (b[j]'zaa):=JC zaa
  have hx:=h.2 _ (List.getElem_mem (show j<b.length by omega))
  have ih:=ZU b u h k (j+1) zaa
  rw[show((j+1:Nat):Int)=(j:Int)+1 from by omega,<-pV (show j<b.length by omega)] at ih
  rw[AL];conv=>lhs;whnf
  refine tq ?_
  exact ih
theorem A1V(h:Eg 32 b):Y E0 (.loop 290 0 0 2 [(2,.pa 0 0),(3,.pa 1 0),(13,.sl (.sl (.sl .u8)) [[],b]),(14,.i (Ak [[],b])),(15,.i 0)] [(0,some (.var [.nil,.i 0])),(1,some (.var [.nil,.i u]))])=some (.fin (.exit 0) 5 [(2,.pa 0 0),(3,.pa 1 0)] [(0,some (.var [.nil,.i 0])),(1,some (.var [.nm 2,.i u])),(2,some (.rowA 24 1 2 [.nm 3,.nm 4])),(3,some (.row 22 (.sl .u8) [])),(4,some (.row 22 (.sl .u8) b))]):=by
 have hi:=ZU b u h 16 0 rfl
 rw[List.take_zero,show((0:Nat):Int)=0 from rfl] at hi
 obtain⟨h1,h2⟩:=h
 have hg1:Ap [[],b] (0+1)=some b:=Zc _ _ _
 refine tq ?_
 rw[wV]
 refine tq ?_
 refine tq ?_
 rw[hg1]
 refine tq ?_
 rw[show(0:Int)+1=1 from rfl,hi]
 refine tq ?_
 exact tq rfl
theorem zJ(h:Eg 32 b):Y E0 (.call 290 [Lh [[],b] u] [])=some (.ret (.agg [.nm 0,.i u]) [some (.rowA 24 1 2 [.nm 1,.nm 2]),some (.row 22 (.sl .u8) []),some (.row 22 (.sl .u8) b)]):=by
 have e:=A1V b u h
 refine tq ?_
 rw[e]
 exact tq rfl
theorem A8B(h:Eg 32 b):Y E0 (.call 155 [Lh [[],b] u] [])=some (.ret (.i 2) []):=by
 have e:=ZQ [] b u (.inl rfl) (.inr h.1)
 rw[show jK [] b=2 from by unfold jK;rw[if_neg zat,if_pos h.1];rfl] at e
 exact e
theorem Kt(h:Eg 32 b):Y E0 (.call 292 [Lh [[],b] u,.i 0] [])=some (.ret (.b false) []):=zG [] b u (.inl rfl) (.inr h.1)
theorem Lp(h:Eg 32 b):Y E0 (.call 292 [Lh [[],b] u,.i 1] [])=some (.ret (.b true) []):=by
 have e:=jL [] b u (.inl rfl) (.inr h.1)
 rw[decide_eq_true (by have:=h.1;omega)] at e
 exact e
theorem IB(hi:0<=i/\i<16):Y E0 (.call 291 [.i i] [])=some (.ret (.b true) []):=by
 refine tq ?_
 with_reducible rfl
theorem A5X(h:Eg 32 b):Y E0 (.call 223 [Lh [[],b] u,.i 0,.i 0] [])=some (.ret (.tup [.sl .u8 [],.i 27]) []):=by
 refine tq ?_
 rw[IB _ AA]
 refine tq ?_
 rw[Kt b u h]
 exact tq rfl
theorem A5Y(h:Eg 32 b):∃ x,Y E0 (.call 223 [Lh [[],b] u,.i 1,.i 0] [])=some (.ret (.tup [.sl .u8 x,.i 0]) []):=by
 have hb:=h.1
 have hg:Ap b 0=some (b[0]'zaa):=Bv (i:=0) zaa
 have hx:=h.2 _ (List.getElem_mem (show 0<b.length by omega))
 refine⟨b[0]'zaa,?_⟩
 refine tq ?_
 rw[IB _ AA]
 refine tq ?_
 rw[Lp b u h]
 refine tq ?_
 rw[hg]
 exact tq rfl
def QH(i:Int):Int:=if i=14 then 2 else if i=15 then 3 else 0
theorem zK:0<=QH i/\QH i<=4:=by unfold QH;split;omega;split<;>omega
theorem Qw(hi:0<=i/\i<16):Y E0 (.call 293 [.i i,.b false] [])=some (.ret (.i (QH i)) []):=by
 unfold QH
 by_cases h14:i=14
 ·rw[if_pos h14]
  subst h14
  refine tq ?_
  with_reducible rfl
 ·rw[if_neg h14]
  by_cases h15:i=15
  ·rw[if_pos h15]
   subst h15
   refine tq ?_
   with_reducible rfl
  ·rw[if_neg h15]
   refine tq ?_
   with_reducible rfl
theorem WT(h:Eg 32 b)(i lo:Int)(d:List UInt8)(hd:d.length<=128):Y E0 (.loop 225 0 0 3 [(1,AV.i lo),(2,AV.i i),(3,AV.sl Ty.u8 d),(4,AV.pa 0 0),(8,AV.pa 1 0),(10,AV.nm 2),(18,AV.i (Ak (BU 2 ([]:List UInt8)))),(19,AV.i 0)] [(0,some (Rs.var [AV.sl Ty.u8.sl.sl [[],b],AV.i u])),(1,some (Rs.var [AV.nil,AV.i 0])),(2,some (Rs.row 22 Ty.u8.sl (BU 2 [])))])=some (.fin (.exit 0) 2 [(1,.i lo),(2,.i i),(4,.pa 0 0),(8,.pa 1 0),(10,.sl (.sl .u8) [[],sha256 d])] [(0,some (.var [.sl (.sl (.sl .u8)) [[],b],.i u])),(1,some (.var [.nil,.i 0]))]):=by
 have e:BB [([]:List UInt8),[]] 1 (sha256 d)=[[],sha256 d]:=by rw[EL];rfl
 have e2:BU 2 ([]:List UInt8)=[[],[]]:=zbw
 have e3:Ak [([]:List UInt8),[]]=2:=zaV
 rw[e2,e3]
 refine tq ?_
 rw[Kt b u h]
 refine tq ?_
 refine tq ?_
 rw[show(0:Int)+1=1 from rfl,Lp b u h]
 refine tq ?_
 rw[Gt _ AA]
 refine tq ?_
 refine tq ?_
 rw[e]
theorem wW(h:Eg 32 b)(i:Int)(hi:0<=i/\i<16)(d:List UInt8)(hd:d.length=32):Y E0 (.loop 224 0 0 2 [(2,AV.i i),(3,AV.sl Ty.u8.sl [[],d]),(4,AV.pa 0 0),(8,AV.pa 1 0),(38,AV.sl Ty.u8.sl [[],d]),(39,AV.i (Ak [[],d])),(40,AV.i 0)] [(0,some (Rs.var [AV.sl Ty.u8.sl.sl [[],b],AV.i u])),(1,some (Rs.var [AV.nil,AV.i 0]))])=some (.fin (.exit 0) 2 [(2,AV.i i),(3,AV.sl Ty.u8.sl [[],d]),(4,AV.pa 0 0),(8,AV.pa 1 0)] [(0,some (.var [AV.sl Ty.u8.sl.sl [[],b],AV.i u])),(1,some (.var [AV.nil,AV.i 0]))]):=by
 have hg1:Ap [[],d] (0+1)=some d:=Zc _ _ _
 refine tq ?_
 rw[Kt b u h]
 refine tq ?_
 refine tq ?_
 rw[hg1]
 refine tq ?_
 rw[show(0:Int)+1=1 from rfl,Lp b u h]
 refine tq ?_
 exact tq rfl
theorem wX(h:Eg 32 b)(i:Int)(hi:0<=i/\i<16)(d:List UInt8)(hd:d.length=32):Y E0 (.loop 224 1 0 2 [(2,AV.i i),(3,AV.sl Ty.u8.sl [[],d]),(4,AV.pa 0 0),(8,AV.pa 1 0),(56,AV.sl Ty.u8.sl [[],d]),(57,AV.i (Ak [[],d])),(58,AV.i 0)] [(0,some (Rs.var [AV.sl Ty.u8.sl.sl [[],b],AV.i u])),(1,some (Rs.var [AV.nil,AV.i 0]))])=some (.fin (.exit 2) 2 [(2,AV.i i),(3,AV.sl Ty.u8.sl [[],d]),(4,AV.pa 0 0),(8,AV.pa 1 0)] [(0,some (.var [AV.sl Ty.u8.sl.sl [[],b],AV.i u])),(1,some (.var [AV.nil,AV.i 0]))]):=by
 have hg1:Ap [[],d] (0+1)=some d:=Zc _ _ _
 have e:=UV
 refine tq ?_
 rw[Kt b u h]
 refine tq ?_
 refine tq ?_
 rw[hg1]
 refine tq ?_
 rw[show(0:Int)+1=1 from rfl,Lp b u h]
 refine tq ?_
 rw[UV]
 refine tq ?_
 exact tq rfl
theorem A8C{l:List (List UInt8)}{m:Nat}(h:∀ x∈l,x.length<=m):l.flatten.length<=m*l.length:=by
 induction l with
 | nil=>simp
 | cons a l ih =>
  have h1:=ih fun x hx=>h x (List.mem_cons_of_mem _ hx)
  have h2:=h a (List.mem_cons_self ..)
  rw[List.flatten_cons,List.length_append,List.length_cons,Nat.mul_add];omega
theorem ACF(h:Eg 32 b):Bg [DX 2] 8 u++b.flatten=UO [[],b] u:=by
 have ha:AAF [[],b]=2:=by unfold AAF;rw[List.getD_cons_zero,List.getD_cons_succ,List.getD_cons_zero,if_neg zat,if_pos h.1];rfl
 rw[UO,ha,Lm,Dq]
 simp
theorem rJ(l:List UInt8):Y E0 (.loop 107 1 0 2 [(1,AV.pa 0 0),(3,AV.nm 1),(16,AV.i (Ak [[],b])),(17,AV.i 0),(24,AV.sl Ty.u8.sl []),(25,AV.i (Ak ([]:List (List UInt8)))),(26,AV.i 0)] [(0,some (Rs.var [AV.sl Ty.u8.sl.sl [[],b],AV.i u])),(1,some (Rs.row 5 Ty.u8 l))])=some (.fin (.exit 2) 2 [(1,AV.pa 0 0),(3,AV.nm 1),(16,AV.i (Ak [[],b])),(17,AV.i 0)] [(0,some (Rs.var [AV.sl Ty.u8.sl.sl [[],b],AV.i u])),(1,some (Rs.row 5 Ty.u8 l))]):=by
 have e:Ak ([]:List (List UInt8))=0:=zaV
 rw[e]
 rw[AL];conv=>lhs;whnf
 refine tq ?_
 with_reducible rfl
theorem WU(b:List (List UInt8))(u:Int)(h:Eg 32 b)(l:List UInt8)(hl:l.length<=100):∀(k j:Nat),j+k=16->Y E0 (.loop 107 1 0 2 [(1,AV.pa 0 0),(3,AV.nm 1),(16,AV.i (Ak [[],b])),(17,AV.i 1),(24,AV.sl Ty.u8.sl b),(25,AV.i (Ak b)),(26,AV.i (j:Int))] [(0,some (Rs.var [AV.sl Ty.u8.sl.sl [[],b],AV.i u])),(1,some (Rs.row 5 Ty.u8 (l++(b.take j).flatten)))])=some (.fin (.exit 2) 2 [(1,AV.pa 0 0),(3,AV.nm 1),(16,AV.i (Ak [[],b])),(17,AV.i 1)] [(0,some (Rs.var [AV.sl Ty.u8.sl.sl [[],b],AV.i u])),(1,some (Rs.row 5 Ty.u8 (l++b.flatten)))])
 | 0,j,hj=>by
  have hb:=h.1
  have hl:Ak b=16:=by rw[AP,hb];rfl
  obtain rfl:j=16:=zaa
  rw[List.take_of_length_le zaa]
  rw[AL];conv=>lhs;whnf
  refine tq ?_
  with_reducible rfl
 | k+1,j,hj=>by
  have hb:=h.1
  have hll:Ak b=16:=by rw[AP,hb];rfl
  have hg:Ap b (j:Int)=some (b[j]'zaa):=JC zaa
  have hx:=h.2 _ (List.getElem_mem (show j<b.length by omega))
  have hle:(l++(b.take j).flatten).length<=10000:=by
   rw[List.length_append];have:=A8C (l:=b.take j) (m:=32) (fun x hx=>Nat.le_of_eq (h.2 x (List.mem_of_mem_take hx)));rw[List.length_take] at this;omega
  have ih:=WU b u h l hl k (j+1) zaa
  rw[show((j+1:Nat):Int)=(j:Int)+1 from by omega,<-pV (show j<b.length by omega),Ac,List.flatten_append,List.flatten_cons,List.flatten_nil,List.append_nil,<-List.append_assoc,<-Ac (l++(b.take j).flatten)] at ih
  rw[AL];conv=>lhs;whnf
  refine tq ?_
  exact ih
theorem wY(h:Eg 32 b)(l:List UInt8)(hl:l.length<=100):Y E0 (.loop 107 0 0 2 [(1,AV.pa 0 0),(3,AV.nm 1),(16,AV.i (Ak [[],b])),(17,AV.i 0)] [(0,some (Rs.var [AV.sl Ty.u8.sl.sl [[],b],AV.i u])),(1,some (Rs.row 5 Ty.u8 l))])=some (.fin (.exit 0) 0 [(3,.sl .u8 (l++b.flatten))] []):=by
 have hi:=WU b u h l hl 16 0 rfl
 rw[List.take_zero,List.flatten_nil,List.append_nil,show((0:Nat):Int)=0 from rfl] at hi
 have hg1:Ap [[],b] (0+1)=some b:=Zc _ _ _
 refine tq ?_
 rw[rJ]
 refine tq ?_
 refine tq ?_
 rw[hg1]
 refine tq ?_
 rw[show(0:Int)+1=1 from rfl,hi]
 refine tq ?_
 exact tq rfl
theorem A5Z(h:Eg 32 b):Y E0 (.call 107 [Lh [[],b] u] [])=some (.ret (.sl .u8 (UO [[],b] u)) []):=by
 have e:=wY b u h (Bg [DX 2] 8 u) (by rw[AU];simp)
 refine tq ?_
 rw[A8B b u h]
 refine tq ?_
 rw[Dy _ _ _ AA]
 refine tq ?_
 rw[e]
 refine tq ?_
 rw[ACF b u h]
noncomputable def ACG(b:List (List UInt8)):List (List UInt8):=BB (BB (BB (BB b 12 (List.replicate 32 (UInt8.ofNat 255))) (12+1) (List.replicate 32 (UInt8.ofNat 255))) (12+1+1) (List.replicate 32 (UInt8.ofNat 255))) (12+1+1+1) (List.replicate 32 (UInt8.ofNat 255))
theorem wZ(h:Eg 32 b)(i:Int)(hi:0<=i/\i<16)(d x:List UInt8)(hd:d.length=32)(hg:Ap b i=some x)(hx:x.length=32):Y E0 (.loop 224 2 0 6 [(2,AV.i i),(3,AV.sl Ty.u8.sl [[],d]),(4,AV.pa 0 0),(8,AV.pa 1 0),(14,AV.pa 2 0),(79,AV.i 2),(80,AV.i 0)] [(0,some (Rs.var [AV.sl Ty.u8.sl.sl [[],b],AV.i u])),(1,some (Rs.var [AV.nil,AV.i 0])),(2,some (.var [.nm 3,.i u])),(3,some (.rowA 24 1 2 [.nm 4,.nm 5])),(4,some (.row 22 (.sl .u8) [])),(5,some (.row 22 (.sl .u8) b))])=some (.fin (.exit 4) 5 [(8,.pa 0 0),(14,.pa 1 0)] [(0,some (.var [.nil,.i 0])),(1,some (.var [.nm 2,.i u])),(2,some (.rowA 24 1 2 [.nm 3,.nm 4])),(3,some (.row 22 (.sl .u8) [])),(4,some (.row 22 (.sl .u8) (BB b i (sha256 (BF x d)))))]):=by
 have hb:=h.1
 have hg1:Ap [[],d] 1=some d:=Zc _ _ _
 have hg2:Ap [[],b] 1=some b:=Zc _ _ _
 have e:=Kt b u h
 have e1:=Lp b u h
 refine tq ?_
 rw[e]
 refine tq ?_
 refine tq ?_
 rw[show(0:Int)+1=1 from rfl,e1]
 conv=>lhs;whnf
 rw[Fb zaa]
 conv=>lhs;whnf
 rw[Dl zaa]
 conv=>lhs;whnf
 rw[hg2]
 refine tq ?_
 rw[hg]
 conv=>lhs;whnf
 rw[Dk zaa]
 conv=>lhs;whnf
 rw[hg1]
 refine tq ?_
 rw[Gt _ AA]
 refine tq ?_
 rw[hg]
 refine tq ?_
 exact tq rfl
theorem zL(h:Eg 32 b)(hu:0<=u/\u<=1000000)(i lo:Int)(hlo:QH i<=lo/\lo<=4)(hi:0<=i/\i<16)(d x:List UInt8)(hd:d.length=32)(hg:Ap b i=some x):Y E0 (.call 224 [Lh [[],b] u,.i lo,.i i,.sl (.sl .u8) [[],d]] [])=some (.ret (.tup [Lh [[],BB b i (sha256 (BF x d))] (u+1),.i 0]) []):=by
 have e:=Qw i hi
 have hn:=zK i
 have e0:=wW b u h i hi d hd
 have e1:=wX b u h i hi d hd
 have hx:x.length=32:=by
  obtain⟨y,hm,hy⟩:=EO (l:=b) (i:=i) (by have:=h.1;omega)
  rw[hg] at hy;cases hy;exact h.2 x hm
 have e2:=wZ b u h i hi d x hd hg hx
 refine tq ?_
 rw[IB _ AA]
 refine tq ?_
 rw[e]
 refine tq ?_
 rw[e0]
 refine tq ?_
 rw[e1]
 refine tq ?_
 rw[zJ b u h]
 refine tq ?_
 rw[show((2:Nat):Int)=2 from rfl];erw[e2]
 conv=>lhs;whnf
 rw[Bj zaa]
 rw[AL]
 conv=>lhs;whnf
theorem A1W(h:Eg 32 b)(hu:0<=u/\u<=1000000)(i lo:Int)(hlo:QH i<=lo/\lo<=4)(hi:0<=i/\i<16)(d x:List UInt8)(hd:d.length<=128)(hg:Ap b i=some x):Y E0 (.call 225 [Lh [[],b] u,.i lo,.i i,.sl .u8 d] [])=some (.ret (.tup [Lh [[],BB b i (sha256 (BF x (sha256 d)))] (u+1),.i 0]) []):=by
 have e1:=WT b u h i lo d hd
 have e2:=zL b u h hu i lo hlo hi (sha256 d) x (A7 _) hg
 refine tq ?_
 rw[e1]
 refine tq ?_
 rw[e2]
 exact tq rfl
end Go.Proofs.YtlpkjhhfhannpaaGreatDoor
