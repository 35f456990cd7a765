/- Own texts of this claim: contracts of functions. -/
import Derived.Test.YtlpkjhhfhannpaaGreatDoorBtbd
import Derived.Test.YtlpkjhhfhannpaaGreatDoorBtbi
import Derived.Test.YtlpkjhhfhannpaaGreatDoorBtbj
set_option linter.all false
set_option maxHeartbeats 40000000
set_option maxRecDepth 100000
namespace Go.Proofs.YtlpkjhhfhannpaaGreatDoor
open Go Go.Ax Go.Eng
attribute [local irreducible] CS Cj CP CW CQ BC Cm ED ES Dx EG CJ Bi Ce CX and' Cf CU BL Au BI BP BR Ag Ai AY Ae D5 EJ D6 DX Cb BZ BQ BM BO BJ AZ BK Aj Ak Ap D7 BB CV BU BF CO D8 Cc fits D9 Ci AC AQ Ah
theorem A8N{b:List (List UInt8)}{u:Int}(h:Eg 32 b):(UO [[],b] u).length=521:=by
 have:∀ l:List (List UInt8),(∀ x∈l,x.length=32)->l.flatten.length=32*l.length:=by
  intro l;induction l with
  | nil=>intro _;rfl
  | cons a l ih=>intro h;rw[List.flatten_cons,List.length_append,h a (List.mem_cons_self ..),ih fun x hx=>h x (List.mem_cons_of_mem _ hx),List.length_cons];omega
 rw[UO,List.length_cons,List.length_append,BX,List.flatten_cons,List.flatten_cons,List.flatten_nil,List.append_nil,List.nil_append,this b h.2,h.1]
variable (b:List (List UInt8))(u:Int)
theorem zU(i e:Int)(d0 d1:List UInt8)(he:e≠0)(k:Y E0 (.call 224 [Lh [[],b] u,.i 0,.i i,.sl (.sl .u8) [d0,d1]] [])=some (.ret (.tup [Lh [] 0,.i e]) [])):Y E0 (.call 187 [tb b u,.i 0,rq 6 [] [] [i] [d0,d1]] [])=some (.ret (.tup [tb b u,Hr e [] [] []]) []):=by
 have kf:=Eu (Ad zen) [[],[],[],[]] (BG zen BN [] 32) 2 1 0 0 false 0 0 [] 0 5 100 0 0 1000 [] true false [[],b] u 0 true 0 noSs noOb [] [] e
 refine tq ?_
 rw[k]
 refine tq ?_
 rw[kf]
 exact tq rfl
theorem ACk(i:Int)(d0 d1:List UInt8)(c:List (List UInt8))(k:Y E0 (.call 224 [Lh [[],b] u,.i 0,.i i,.sl (.sl .u8) [d0,d1]] [])=some (.ret (.tup [Lh [[],c] (u+1),.i 0]) [])):Y E0 (.call 187 [tb b u,.i 0,rq 6 [] [] [i] [d0,d1]] [])=some (.ret (.tup [tb c (u+1),Hr 0 [] [] []]) []):=by
 refine tq ?_
 rw[k]
 exact tq rfl
theorem AEb(hb:Eg 32 b)(hu:0<=u/\u<=1000000)(i:Int)(d0 d1:List UInt8)(hl:d0.length<=1024/\d1.length<=1024):Lr (.call 187 [tb b u,.i 0,rq 6 [] [] [i] [d0,d1]] []):=by
 by_cases h1:i<0\/16<=i
 ·exact JJ (e:=1) zaj (zU b u i 1 d0 d1 zaj (A9B b u i d0 d1 h1))
 by_cases h2:i=14\/i=15
 ·exact JJ (e:=13) zaj (zU b u i 13 d0 d1 zaj (A9C b u i d0 d1 h2))
 by_cases h3:d0=[]
 ·subst h3
  by_cases h4:d1.length=32
  ·obtain⟨x,hx,_⟩:=jU hb (i:=i) zaa
   exact⟨Wx (BB b i (sha256 (BF x d1))) (u+1),0,[],[],Rz _ _,jS,ACk b u i [] d1 _ (zL b u hb hu i 0 ⟨by unfold QH;rw[if_neg zaa,if_neg zaa];decide,by decide⟩ zaa d1 x h4 hx)⟩
  ·exact JJ (e:=24) zaj (zU b u i 24 [] d1 zaj (ACf b u i d1 hb zaa hl.2 h4))
 ·exact JJ (e:=27) zaj (zU b u i 27 d0 d1 zaj (ACe b u i d0 d1 hb zaa h3 hl))
theorem A5n(i e:Int)(d:List UInt8)(hb:Eg 32 b)(hd:d.length<=1024)(he:e≠0)(k:Y E0 (.call 225 [Lh [[],b] u,.i 0,.i i,.sl .u8 d] [])=some (.ret (.tup [Lh [] 0,.i e]) [])):Y E0 (.call 187 [tb b u,.i 0,rq 7 [] [] [i] [d]] [])=some (.ret (.tup [tb b u,Hr e [] [] []]) []):=by
 have kf:=Eu (Ad zen) [[],[],[],[]] (BG zen BN [] 32) 2 1 0 0 false 0 0 [] 0 5 100 0 0 1000 [] true false [[],b] u 0 true 0 noSs noOb [] [] e
 have hl:=dY (Ad zen) [[],[],[],[]] (BG zen BN [] 32) 2 1 0 0 false 0 0 [] 0 5 100 0 0 1000 [] true false [[],b] u 0 true 0 noSs noOb [] [] b i 0 d hb hd
 refine tq ?_
 rw[hl]
 refine tq ?_
 rw[k]
 refine tq ?_
 rw[kf]
 exact tq rfl
theorem AEc(hb:Eg 32 b)(hu:0<=u/\u<=1000000)(i:Int)(d:List UInt8)(hl:d.length<=1024):Lr (.call 187 [tb b u,.i 0,rq 7 [] [] [i] [d]] []):=by
 by_cases h0:128<d.length
 ·exact JJ (e:=4) zaj (A5n b u i 4 d hb hl zaj (ACg b u i d h0))
 by_cases h1:i<0\/16<=i
 ·exact JJ (e:=1) zaj (A5n b u i 1 d hb hl zaj (A9D b u i d hb zaa 1 (A9B b u i [] (sha256 d) h1)))
 by_cases h2:i=14\/i=15
 ·exact JJ (e:=13) zaj (A5n b u i 13 d hb hl zaj (A9D b u i d hb zaa 13 (A9C b u i [] (sha256 d) h2)))
 obtain⟨x,hx,_⟩:=jU hb (i:=i) zaa
 refine⟨Wx (BB b i (sha256 (BF x (sha256 d)))) (u+1),0,[],[[],sha256 d],Rz _ _,⟨.inl rfl,by simp,by simp,by simp,by simp,?_,by simp⟩,?_⟩
 ·intro y hy;simp at hy;rcases hy with rfl|rfl;simp;rw[A7];decide
 ·exact zQ (Ad zen) [[],[],[],[]] (BG zen BN [] 32) 2 1 0 0 false 0 0 [] 0 5 100 0 0 1000 [] true false [[],b] u 0 true 0 noSs noOb [] [] b i 0 ⟨by unfold QH;rw[if_neg zaa,if_neg zaa];decide,by decide⟩ d x rfl hb hu zaa zaa hx
theorem A9E(i e:Int)(he:e≠0)(k:Y E0 (.call 226 [Lh [[],b] u,.i 0,.i i] [])=some (.ret (.tup [Lh [] 0,.i e]) [])):Y E0 (.call 187 [tb b u,.i 0,rq 8 [] [] [i] []] [])=some (.ret (.tup [tb b u,Hr e [] [] []]) []):=by
 have kf:=Eu (Ad zen) [[],[],[],[]] (BG zen BN [] 32) 2 1 0 0 false 0 0 [] 0 5 100 0 0 1000 [] true false [[],b] u 0 true 0 noSs noOb [] [] e
 refine tq ?_
 rw[k]
 refine tq ?_
 rw[kf]
 exact tq rfl
theorem ACl(i:Int)(c:List (List UInt8))(k:Y E0 (.call 226 [Lh [[],b] u,.i 0,.i i] [])=some (.ret (.tup [Lh [[],c] (u+1),.i 0]) [])):Y E0 (.call 187 [tb b u,.i 0,rq 8 [] [] [i] []] [])=some (.ret (.tup [tb c (u+1),Hr 0 [] [] []]) []):=by
 refine tq ?_
 rw[k]
 exact tq rfl
theorem AEd(hb:Eg 32 b)(hu:0<=u/\u<=1000000)(i:Int):Lr (.call 187 [tb b u,.i 0,rq 8 [] [] [i] []] []):=by
 by_cases h1:i<0\/16<=i
 ·exact JJ (e:=1) zaj (A9E b u i 1 zaj (ACh b u i h1))
 by_cases h2:i=12\/i=13
 ·exact⟨Wx (BB b i (List.replicate 32 0)) (u+1),0,[],[],Rz _ _,jS,ACl b u i _ (AEa b u i hb hu h2)⟩
 ·exact JJ (e:=13) zaj (A9E b u i 13 zaj (ACi b u i zaa zaa))
theorem ACm(n:Int)(hn:n≠0/\n≠1):Y E0 (.call 186 [tb b u,.i n] [])=some (.ret (.tup [zS,.i 1]) []):=by
 refine tq ?_
 with_reducible rfl
theorem AAr:Y E0 (.call 186 [tb b u,.i 0] [])=some (.ret (.tup [(sX (Ad zen) [[],[],[],[]] (BG zen BN [] 32) 2 1 0 0 true [] 0 0 [] 0 5 100 0 0 1000 [] false true [] 0 0 false 0 noSs noOb [] []),.i 0]) []):=by
 have k:=iQ (Ad zen) [[],[],[],[]] (BG zen BN [] 32) 2 1 0 0 true [] 0 0 [] 0 5 100 0 0 1000 []
 refine tq ?_
 rw[k]
 exact tq rfl
theorem ACn:Y E0 (.call 185 [tb b u,(sX (Ad zen) [[],[],[],[]] (BG zen BN [] 32) 2 1 0 0 true [] 0 0 [] 0 5 100 0 0 1000 [] false true [] 0 0 false 0 noSs noOb [] []),.i 0] [])=some (.ret (.tup [(sX (Ad zen) [[],[],[],[]] (BG zen BN [] 32) 2 1 0 0 true [] 0 0 [] 0 5 100 0 0 1000 [] false true [] 0 0 false 0 noSs noOb [] []),Hr 0 [] [] []]) []):=by
 refine tq ?_
 with_reducible rfl
theorem AEe(hb:Eg 32 b)(hu:0<=u/\u<=1000000):wu {Wx b u with od:=true,sb:=[[],b],su:=u,st:=false,sp:=true,rb:=[],ru:=0,sf:=false}:=by
 have ok:=JF 1 zaj
 have hh:Y E0 (.call 107 [.agg [.sl (.sl (.sl .u8)) [[],b],.i u]] [])=some (.ret (.sl .u8 (UO [[],b] u)) [])/\(UO [[],b] u).length<=4000:=⟨A5Z b u hb,by rw[A8N hb];decide⟩
 refine⟨_,nR _ _ _ _ _ _ _ true [[],b] u _ _ _ _ _ _ _ _ [] hh.1 hh.2 ok.sl ok.al ok.sm ok.am ok.en ok.il ok.im ok.kl ok.km,?_⟩
 exact Nat.le_trans (bH _ _ _ _ _ _ _ true [[],b] u _ _ _ _ _ _ _ _ [] hh.2 ⟨ok.sl,ok.al,ok.sm,ok.am,ok.en,ok.ac,ok.re,ok.rs,ok.ck,hu,ok.mc,ok.il,ok.im,ok.lk,ok.kl,ok.km⟩) zaj
theorem AEf(hb:Eg 32 b)(hu:0<=u/\u<=1000000)(n:Int):Lr (.call 138 [tb b u,.i 0,rq 2 [] [] [n] []] []):=by
 by_cases h1:n=1
 ·subst h1
  exact⟨{Wx b u with od:=true,sb:=[[],b],su:=u,st:=false,sp:=true,rb:=[],ru:=0,sf:=false},0,[],[],AEe b u hb hu,jS,AAp (Ad zen) [[],[],[],[]] (BG zen BN [] 32) 2 1 0 0 false 0 0 [] 0 5 100 0 0 1000 [] true false [[],b] u 0 true 0 noSs noOb [] [] rfl⟩
 by_cases h0:n=0
 ·subst h0
  refine⟨{Wx b u with od:=true,st:=false,sp:=true,rb:=[],ru:=0,sf:=false},0,[],[],Um _ rfl (JF 1 zaj),jS,?_⟩
  have k:=AAr b u
  refine tq ?_
  rw[k]
  refine tq ?_
  rw[ACn]
  exact tq rfl
 ·refine JJ (b:=b) (u:=u) (e:=1) zaj ?_
  have k:=ACm b u n ⟨h0,h1⟩
  have kd:=Qx b u 1 zaj
  refine tq ?_
  rw[k]
  refine tq ?_
  rw[kd]
  exact tq rfl
end Go.Proofs.YtlpkjhhfhannpaaGreatDoor
