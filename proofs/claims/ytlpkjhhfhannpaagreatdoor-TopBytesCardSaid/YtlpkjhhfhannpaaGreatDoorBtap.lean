/- Own texts of this claim: contracts of functions. -/
import Derived.Test.YtlpkjhhfhannpaaGreatDoorBtao
set_option linter.all false
set_option maxHeartbeats 40000000
set_option maxRecDepth 100000
namespace Go.Proofs.YtlpkjhhfhannpaaGreatDoor
open Go Go.Ax Go.Eng
attribute [local irreducible] CS Cj CP CW CQ BC Cm ED ES Dx EG CJ Bi Ce CX and' Cf CU BL Au BI BP BR Ag Ai AY Ae D5 EJ D6 DX Cb BZ BQ BM BO BJ AZ BK Aj Ak Ap D7 BB CV BU BF CO D8 Cc fits D9 Ci AC AQ Ah
variable (sd au:List (List UInt8))(en:List UInt8)(ac re rs ck:Int)(od:Bool)(su mc:Int)(ix:List (El Bf))(l1 l2 l3 l4 l5 l6:Int)(ks:List (El E8))(st sp:Bool)(rb:List (List (List UInt8)))(ru vc:Int)(sf:Bool)(dr:Int)(ss:List (El sesT))(ob:List (El objT))(rl wl:List Int)(c:Int)(hs:List Int)(az:List (El AB))(qi:List Int)(h:Int)(qb:List (List UInt8))(se:Int)(nn v:List UInt8)
theorem A1C(h:Int):Y E0 (.call 249 [.agg [.sl (.sl .u8) sd,.sl (.sl .u8) au,.sl .u8 en,.i ac,.i re,.i rs,.i ck,.b od,.sl (.sl (.sl .u8)) [],.i su,.i mc,.sl Bf ix,.i l1,.i l2,.i l3,.i l4,.i l5,.i l6,.sl E8 ks,.b st,.b sp,.sl (.sl (.sl .u8)) rb,.i ru,.i vc,.b sf,.i dr,.sl sesT ss,.sl objT ob,.sl .i64 rl,.sl .i64 wl,.i c,.sl .i64 hs,.sl AB az,.sl .i64 qi,.sl (.sl .u8) qb,.i se,.sl .u8 nn,.sl .u8 v,.i h]] [])=some (.ret (.i vc) []):=by
 refine tq ?_
 with_reducible rfl
theorem A5J(h:Int)(hh:0<=h/\h<=3)(hl:ix.length<=10)(hx:∀ x∈ix,Gv x):Y E0 (.call 247 [.agg [.sl (.sl .u8) sd,.sl (.sl .u8) au,.sl .u8 en,.i ac,.i re,.i rs,.i ck,.b od,.sl (.sl (.sl .u8)) [],.i su,.i mc,.sl Bf ix,.i l1,.i l2,.i l3,.i l4,.i l5,.i l6,.sl E8 ks,.b st,.b sp,.sl (.sl (.sl .u8)) rb,.i ru,.i vc,.b sf,.i dr,.sl sesT ss,.sl objT ob,.sl .i64 rl,.sl .i64 wl,.i c,.sl .i64 hs,.sl AB az,.sl .i64 qi,.sl (.sl .u8) qb,.i se,.sl .u8 nn,.sl .u8 v,.i h],.i h] [])=some (.ret (.tup [.i 0,.b false]) []):=by
 have hi:=dP sd au en ac re rs ck od su mc ix l1 l2 l3 l4 l5 l6 ks st sp rb ru vc sf dr ss ob rl wl h hh hl hx
 refine tq ?_
 rw[hi]
 exact tq rfl
theorem Uj(h:Int)(hh:0<=h/\h<=3)(hl:ix.length<=10)(hx:∀ x∈ix,Gv x)(ho:ob.length<=1000)(hc:c<23\/29<c):Y E0 (.call 240 [.agg [.sl (.sl .u8) sd,.sl (.sl .u8) au,.sl .u8 en,.i ac,.i re,.i rs,.i ck,.b od,.sl (.sl (.sl .u8)) [],.i su,.i mc,.sl Bf ix,.i l1,.i l2,.i l3,.i l4,.i l5,.i l6,.sl E8 ks,.b st,.b sp,.sl (.sl (.sl .u8)) rb,.i ru,.i vc,.b sf,.i dr,.sl sesT ss,.sl objT ob,.sl .i64 rl,.sl .i64 wl,.i c,.sl .i64 hs,.sl AB az,.sl .i64 qi,.sl (.sl .u8) qb,.i se,.sl .u8 nn,.sl .u8 v,.i h]] [])=some (.ret (.b false) []):=by
 have hi:=A5J sd au en ac re rs ck od su mc ix l1 l2 l3 l4 l5 l6 ks st sp rb ru vc sf dr ss ob rl wl c hs az qi qb se nn v h hh hl hx
 have hb:=Qq sd au en ac re rs ck od [] su mc ix l1 l2 l3 l4 l5 l6 ks st sp rb ru vc sf dr ss ob rl wl h ho zaa (by rw[GG,if_neg zaa])
 rcases hc with hc|hc
 ·by_cases h1:h=1
  ·subst h1
   refine tq ?_
   rw[hb]
   refine tq ?_
   rw[hi]
   exact tq rfl
  ·refine tq ?_
   rw[hb]
   refine tq ?_
   rw[hi]
   exact tq rfl
 ·by_cases h1:h=1
  ·subst h1
   refine tq ?_
   rw[hb]
   refine tq ?_
   rw[hi]
   exact tq rfl
  ·refine tq ?_
   rw[hb]
   refine tq ?_
   rw[hi]
   exact tq rfl
theorem qm(h:Int)(hh:0<=h/\h<=2)(w:List UInt8)(hl:ix.length<=10)(hx:∀ x∈ix,Gv x)(ho:ob.length<=1000)(ha:au.length=4)(hv:Ap au h=some w):Y E0 (.call 241 [.agg [.sl (.sl .u8) sd,.sl (.sl .u8) au,.sl .u8 en,.i ac,.i re,.i rs,.i ck,.b od,.sl (.sl (.sl .u8)) [],.i su,.i mc,.sl Bf ix,.i l1,.i l2,.i l3,.i l4,.i l5,.i l6,.sl E8 ks,.b st,.b sp,.sl (.sl (.sl .u8)) rb,.i ru,.i vc,.b sf,.i dr,.sl sesT ss,.sl objT ob,.sl .i64 rl,.sl .i64 wl,.i c,.sl .i64 hs,.sl AB az,.sl .i64 qi,.sl (.sl .u8) qb,.i se,.sl .u8 nn,.sl .u8 v,.i h]] [])=some (.ret (.b false) []):=by
 have hp:=TE sd au en ac re rs ck od su mc ix l1 l2 l3 l4 l5 l6 ks st sp rb ru vc sf dr ss ob rl wl h w zaa hl hx ho ha hv
 refine tq ?_
 rw[hp]
 exact tq rfl
theorem dQ(h:Int)(x:List UInt8)(hx:x.length<=100000):Y E0 (.call 243 [.agg [.sl (.sl .u8) sd,.sl (.sl .u8) au,.sl .u8 en,.i ac,.i re,.i rs,.i ck,.b od,.sl (.sl (.sl .u8)) [],.i su,.i mc,.sl Bf ix,.i l1,.i l2,.i l3,.i l4,.i l5,.i l6,.sl E8 ks,.b st,.b sp,.sl (.sl (.sl .u8)) rb,.i ru,.i vc,.b sf,.i dr,.sl sesT ss,.sl objT ob,.sl .i64 rl,.sl .i64 wl,.i c,.sl .i64 hs,.sl AB az,.sl .i64 qi,.sl (.sl .u8) qb,.i se,.sl .u8 nn,.sl .u8 v,.i h],.sl .u8 x,.sl .u8 x] [])=some (.ret (.tup [(sX sd au en ac re rs ck od [] su mc ix l1 l2 l3 l4 l5 l6 ks st sp rb ru vc sf dr ss ob rl wl),.i 0]) []):=by
 have he:=Z8 x x zaa
 rw[decide_eq_true rfl] at he
 refine tq ?_
 rw[he]
 exact tq rfl
theorem A1D(h:Int)(x y w:List UInt8)(hxl:x.length<=100000)(hxy:x≠y)(hh:0<=h/\h<=2)(hl:ix.length<=10)(hx:∀ x∈ix,Gv x)(ho:ob.length<=1000)(ha:au.length=4)(hv:Ap au h=some w):Y E0 (.call 243 [.agg [.sl (.sl .u8) sd,.sl (.sl .u8) au,.sl .u8 en,.i ac,.i re,.i rs,.i ck,.b od,.sl (.sl (.sl .u8)) [],.i su,.i mc,.sl Bf ix,.i l1,.i l2,.i l3,.i l4,.i l5,.i l6,.sl E8 ks,.b st,.b sp,.sl (.sl (.sl .u8)) rb,.i ru,.i vc,.b sf,.i dr,.sl sesT ss,.sl objT ob,.sl .i64 rl,.sl .i64 wl,.i c,.sl .i64 hs,.sl AB az,.sl .i64 qi,.sl (.sl .u8) qb,.i se,.sl .u8 nn,.sl .u8 v,.i h],.sl .u8 x,.sl .u8 y] [])=some (.ret (.tup [(sX sd au en ac re rs ck od [] su mc ix l1 l2 l3 l4 l5 l6 ks st sp rb ru vc sf dr ss ob rl wl),.i 9]) []):=by
 have he:=Z8 x y zaa
 rw[decide_eq_false hxy] at he
 have hp:=TE sd au en ac re rs ck od su mc ix l1 l2 l3 l4 l5 l6 ks st sp rb ru vc sf dr ss ob rl wl h w zaa hl hx ho ha hv
 refine tq ?_
 rw[he]
 refine tq ?_
 rw[hp]
 exact tq rfl
theorem A7x(h:Int)(hh:0<=h/\h<=2)(hl:ix.length<=10)(hx:∀ x∈ix,Gv x)(ho:ob.length<=1000)(ha:au.length=4)(hv:Ap au h=some v)(hc:c<23\/29<c)(hvl:v.length<=1000):Y E0 (.call 194 [.agg [.sl (.sl .u8) sd,.sl (.sl .u8) au,.sl .u8 en,.i ac,.i re,.i rs,.i ck,.b od,.sl (.sl (.sl .u8)) [],.i su,.i mc,.sl Bf ix,.i l1,.i l2,.i l3,.i l4,.i l5,.i l6,.sl E8 ks,.b st,.b sp,.sl (.sl (.sl .u8)) rb,.i ru,.i vc,.b sf,.i dr,.sl sesT ss,.sl objT ob,.sl .i64 rl,.sl .i64 wl,.i c,.sl .i64 hs,.sl AB az,.sl .i64 qi,.sl (.sl .u8) qb,.i se,.sl .u8 nn,.sl .u8 v,.i h],iP 0 [] [] 0 0 0 0 false] [])=some (.ret (.tup [(sX sd au en ac re rs ck od [] su mc ix l1 l2 l3 l4 l5 l6 ks st sp rb ru vc sf dr ss ob rl wl),.i 0]) []):=by
 have h1:=Uj sd au en ac re rs ck od su mc ix l1 l2 l3 l4 l5 l6 ks st sp rb ru vc sf dr ss ob rl wl c hs az qi qb se nn v h zaa hl hx ho hc
 have h2:=qm sd au en ac re rs ck od su mc ix l1 l2 l3 l4 l5 l6 ks st sp rb ru vc sf dr ss ob rl wl c hs az qi qb se nn v h hh v hl hx ho ha hv
 have h3:=Qr sd au en ac re rs ck od su mc ix l1 l2 l3 l4 l5 l6 ks st sp rb ru vc sf dr ss ob rl wl h v zaa hl hx ho ha hv
 have h4:=dQ sd au en ac re rs ck od su mc ix l1 l2 l3 l4 l5 l6 ks st sp rb ru vc sf dr ss ob rl wl c hs az qi qb se nn v h v zaa
 refine tq ?_
 rw[h1]
 refine tq ?_
 rw[h2]
 refine tq ?_
 rw[h3]
 refine tq ?_
 rw[h4]
 exact tq rfl
theorem zA(hs:List Int)(nn v:List UInt8)(az:List (El AB))(qi:List Int)(qb:List (List UInt8))(hh:0<=h/\h<=2)(hl:ix.length<=10)(hx:∀ x∈ix,Gv x)(ho:ob.length<=1000)(ha:au.length=4)(hv:Ap au h=some v)(hc:c<23\/29<c)(hv1:v.length<=1000):Y E0 (.call 139 [(sX sd au en ac re rs ck od [] su mc ix l1 l2 l3 l4 l5 l6 ks st sp rb ru vc sf dr ss ob rl wl),.i 0,rq c (h::hs) ((0,nn,v)::az) qi qb] [])=some (.ret (.tup [(sX sd au en ac re rs ck od [] su mc ix l1 l2 l3 l4 l5 l6 ks st sp rb ru vc sf dr ss ob rl wl),.i 0]) []):=by
 have hk:=A7x sd au en ac re rs ck od su mc ix l1 l2 l3 l4 l5 l6 ks st sp rb ru vc sf dr ss ob rl wl c (h::hs) ((0,nn,v)::az) qi qb 0 nn v h hh hl hx ho ha hv hc hv1
 refine tq ?_
 rw[hk]
 exact tq rfl
theorem A7y(l:List (List UInt8))(hn:Cc l=false)(hl:l.length<=1001):Y E0 (.call 323 [.sl (.sl .u8) l] [])=some (.ret (.nm 0) [some (.row 22 (.sl .u8) l)]):=by
 have hf:fits (α:=El (.sl .u8)) l 32768=true:=Dk (α:=El (.sl .u8)) (show l.length*32768<=140737488355328 by omega)
 refine tq ?_
 rw[show E0.ov (Req.call 323 [AV.sl (.sl .u8) l] [])=(bif fits (α:=El (.sl .u8)) l 32768 then some (.ret (.nm 0) [some (.row 22 (.sl .u8) l)]) else none) from rfl,hf]
 rfl
theorem Oo(l:List (List UInt8))(i:Int)(x:List UInt8)(hl:l.length<=1000)(hi:0<=i/\i<l.length):Y E0 (.call 271 [.sl (.sl .u8) l,.i i,.sl .u8 x] [])=some (.ret (.sl (.sl .u8) (BB l i x)) []):=by
 have hn:Cc l=false:=by cases l with|nil=>simp at hi;omega|cons y m=>exact A5G y m
 have hc:=A7y l hn zaa
 refine tq ?_
 rw[hc]
 conv=>lhs;whnf
 rw[Dl zaI]
 conv=>lhs;whnf
 rw[H6 zaa]
 conv=>lhs;whnf
 rw[Bv zaa]
 conv=>lhs;whnf
 rw[AL]
 conv=>lhs;whnf
theorem qp(az:List (El AB))(a:List UInt8)(ha:au.length=4)(hh:0<=h/\h<=3)(hal:a.length<=32):Y E0 (.call 205 [(sX sd au en ac re rs ck od [] su mc ix l1 l2 l3 l4 l5 l6 ks st sp rb ru vc sf dr ss ob rl wl),rq 30 [h] az [] [a]] [])=some (.ret (.tup [(sX sd (BB au h a) en ac re rs ck od [] su mc ix l1 l2 l3 l4 l5 l6 ks st sp rb ru vc sf dr ss ob rl wl),Hr 0 [] [] []]) []):=by
 have hr:=Oo au h a zaa zaa
 refine tq ?_
 rw[hr]
 exact tq rfl
theorem wH(az:List (El AB))(a:List UInt8)(ha:au.length=4)(hh:0<=h/\h<=3)(hal:a.length<=32):Y E0 (.call 140 [(sX sd au en ac re rs ck od [] su mc ix l1 l2 l3 l4 l5 l6 ks st sp rb ru vc sf dr ss ob rl wl),rq 30 [h] az [] [a]] [])=some (.ret (.tup [(sX sd (BB au h a) en ac re rs ck od [] su mc ix l1 l2 l3 l4 l5 l6 ks st sp rb ru vc sf dr ss ob rl wl),Hr 0 [] [] []]) []):=by
 have hr:=qp sd au en ac re rs ck od su mc ix l1 l2 l3 l4 l5 l6 ks st sp rb ru vc sf dr ss ob rl wl h az a ha hh hal
 refine tq ?_
 rw[hr]
 exact tq rfl
theorem zB(az:List (El AB))(qi:List Int)(qb:List (List UInt8)):Y E0 (.call 141 [(sX sd au en ac re rs ck od [] su mc ix l1 l2 l3 l4 l5 l6 ks st sp rb ru vc sf dr ss ob rl wl),rq c hs ((0,nn,v)::az) qi qb] [])=some (.ret (.tup [(sX sd au en ac re rs ck od [] su mc ix l1 l2 l3 l4 l5 l6 ks st sp rb ru vc sf dr ss ob rl wl),.sl (.sl .u8) []]) []):=by
 refine tq ?_
 with_reducible rfl
section
attribute [local irreducible] Eo
theorem rH(az:List (El AB))(is:List Int)(bs:List (List UInt8))(hh:0<=h/\h<=2)(hl:ix.length<=10)(hx:∀ x∈ix,Gv x)(ho:ob.length<=1000)(ha:au.length=4)(hv:Ap au h=some v):Y E0 (.call 137 [(sX sd au en ac re rs ck od [] su mc ix l1 l2 l3 l4 l5 l6 ks st sp rb ru vc sf dr ss ob rl wl),rq 9 [h] az is bs] [])=some (.ret (.b true) []):=by
 have hn:=ZL sd au en ac re rs ck od su mc ix l1 l2 l3 l4 l5 l6 ks st sp rb ru vc sf dr ss ob rl wl h v zaa hl hx ho ha hv
 have l0:=Qo sd au en ac re rs ck od su mc ix l1 l2 l3 l4 l5 l6 ks st sp rb ru vc sf dr ss ob rl wl 9 [h] az is bs zat (fun x hx=>by simp at hx;subst hx;exact⟨_,hn⟩) 1 0 rfl
 have e2:Ak [h]=1:=zaV
 rw[show((List.length [h]:Nat):Int)=1 from rfl,show((0:Nat):Int)=0 from rfl] at l0
 refine tq ?_
 simp only[e2,Nat.reduceAdd];rw[l0]
 conv=>lhs;whnf
 rw[e2]
 conv=>lhs;whnf
 rw[Aa zaa]
 conv=>lhs;whnf
 rw[nG];conv=>lhs;whnf
 rw[Dz zaa]
 conv=>lhs;whnf
 exact zas
theorem dX(k a t:Int)(az:List (El AB))(o u d:List UInt8)(hl:ob.length<=1000)(hsd:sd.length<=1000)(hsl:∀ l∈sd,l.length<=1000)(ho:o.length<=50000)(hd:d.length<=50000)(e:Int)(is:List Int)(bs:List (List UInt8))(ob2:List (El objT))(hp:Eo sd ob h k a t o u d=(ob2,⟨e,is,bs⟩)):Y E0 (.call 140 [(sX sd au en ac re rs ck od [] su mc ix l1 l2 l3 l4 l5 l6 ks st sp rb ru vc sf dr ss ob rl wl),rq 9 [h] az [k,a,t] [o,u,d]] [])=some (.ret (.tup [(sX sd au en ac re rs ck od [] su mc ix l1 l2 l3 l4 l5 l6 ks st sp rb ru vc sf dr ss ob2 rl wl),Hr e is bs []]) []):=by
 have hr:=A5B sd au en ac re rs ck od [] su mc ix l1 l2 l3 l4 l5 l6 ks st sp rb ru vc sf dr ss ob rl wl 9 h k a t [] az o u d hl hsd hsl zat ho hd
 rw[hp] at hr
 refine tq ?_
 rw[hr]
 exact tq rfl
theorem A87(k a t:Int)(o u d:List UInt8)(hst:st=true)(hh:0<=h/\h<=2)(hl:ix.length<=10)(hx:∀ x∈ix,Gv x)(hol:ob.length<=1000)(ha:au.length=4)(hv:Ap au h=some ([]:List UInt8))(hsd:sd.length<=1000)(hsl:∀ l∈sd,l.length<=1000)(ho:o.length<=50000)(hd:d.length<=50000)(is:List Int)(bs:List (List UInt8))(ob2:List (El objT))(hp:Eo sd ob h k a t o u d=(ob2,⟨0,is,bs⟩))(hq:rqG 9 3 [h] [(0,[],[])] [k,a,t] [o,u,d]):Y E0 (.call 87 [(sX sd au en ac re rs ck od [] su mc ix l1 l2 l3 l4 l5 l6 ks st sp rb ru vc sf dr ss ob rl wl),.i 0,rq 9 [h] [(0,[],[])] [k,a,t] [o,u,d]] [])=some (.ret (.tup [(sX sd au en ac re rs ck od [] su mc ix l1 l2 l3 l4 l5 l6 ks st sp rb ru vc sf dr ss ob2 rl wl),Hr 0 is bs []]) []):=by
 have k1:=Nc hq
 have k2:=rH sd au en ac re rs ck od su mc ix l1 l2 l3 l4 l5 l6 ks st sp rb ru vc sf dr ss ob rl wl h [] [(0,[],[])] [k,a,t] [o,u,d] hh hl hx hol ha hv
 have k3:=zA sd au en ac re rs ck od su mc ix l1 l2 l3 l4 l5 l6 ks st sp rb ru vc sf dr ss ob rl wl 9 h [] [] [] [] [k,a,t] [o,u,d] hh hl hx hol ha hv zaa zat
 have k4:=dX sd au en ac re rs ck od su mc ix l1 l2 l3 l4 l5 l6 ks st sp rb ru vc sf dr ss ob rl wl h k a t [(0,[],[])] o u d hol hsd hsl ho hd 0 is bs ob2 hp
 have k5:=zB sd au en ac re rs ck od su mc ix l1 l2 l3 l4 l5 l6 ks st sp rb ru vc sf dr ss ob2 rl wl 9 [h] [] [] [] [k,a,t] [o,u,d]
 subst hst
 refine tq ?_
 rw[k1]
 refine tq ?_
 rw[k2]
 refine tq ?_
 rw[k3]
 refine tq ?_
 rw[k4]
 conv=>lhs;whnf
 rw[AL]
 conv=>lhs;whnf
 rw[FH zaa]
 conv=>lhs;whnf
 try dsimp -iota -beta -eta -zeta only
 rw[AX]
 rw[k5]
 exact tq rfl
end
end Go.Proofs.YtlpkjhhfhannpaaGreatDoor
