/- Own texts of this claim: contracts of functions. -/
import Derived.Test.YtlpkjhhfhannpaaGreatDoorBtax
import Derived.Test.YtlpkjhhfhannpaaGreatDoorBtbm
set_option linter.all false
set_option maxHeartbeats 40000000
set_option maxRecDepth 100000
namespace Go.Proofs.YtlpkjhhfhannpaaGreatDoor
open Go Go.Ax Go.Eng
attribute [local irreducible] CS Cj CP CW CQ BC Cm ED ES Dx EG CJ Bi Ce CX and' Cf CU BL Au BI BP BR Ag Ai AY Ae D5 EJ D6 DX Cb BZ BQ BM BO BJ AZ BK Aj Ak Ap D7 BB CV BU BF CO D8 Cc fits D9 Ci AC AQ Ah
theorem i01:CS 0 1=1:=by rw[Bj zaa];rfl
theorem A8R(p:List UInt8)(hp:p.length=32):DI ⟨3,0,0,p,List.replicate (uniq 3).toNat 0⟩=0:=by
 unfold DI
 simp[uniq,hp];rfl
theorem AD0(e:Int)(he:e=0\/0<e/\e<=255):rpG e [] [] [] :=
 ⟨by rcases he with h|h<;>simp[h],by simp,by simp,by simp,by simp,by simp,by simp⟩
theorem AEj:(BG zen BN [] 32).length<=100000:=by rw[Et (n:=32) zaa];decide
theorem AEk:∀ l∈Ad zen,l.length<=1000:=fun l hl=>(JF 1 zaa).sm l hl
theorem AD1:(Ad zen).length=3:=(JF 1 zaa).sl
theorem AEl(P:List UInt8)(hP:P.length=32):∃ ar wr nx ar1 wr1 ZX U S B1 B2,U.length=32/\S.length=32/\PK ar1 (ZX-1) (encS (Ad zen) [[],[],[],[]] (BG zen BN [] 32) 2 1 0 0 false [] 0 0 [] 0 5 100 0 0 1000 [])/\(0<=wr1/\wr1<=ZX)/\ZX<=3/\Y E0 (.call 5 [.i 2] [])=some (.ret (.tup [Jv ar wr 0 0 false (Ad zen) [[],[],[],[]] (BG zen BN [] 32) 2 1 0 0 false [] 0 0 [] 0 5 100 0 0 1000 [] true false (EI 2) 0 0 true 0 noSs noOb [] [] true nx,.b true]) []) /\
  Y E0 (.call 15 [Jv ar wr 0 0 false (Ad zen) [[],[],[],[]] (BG zen BN [] 32) 2 1 0 0 false [] 0 0 [] 0 5 100 0 0 1000 [] true false (EI 2) 0 0 true 0 noSs noOb [] [] true nx,.i 0,rq 9 [0] [(0,[],[])] [3,0,0] [P,[],[9]],.i 1,.i 2] [])=some (.ret (.tup [Jv ar1 wr1 0 0 false (Ad zen) [[],[],[],[]] (BG zen BN [] 32) 2 1 0 0 false [] 0 0 [] 0 5 100 0 0 1000 [] true false (EI 2) 0 0 true 0 noSs [((3,0,0,P,U),([],S,[9]),0),Zd,Zd] [] [] true ZX,Hr 0 [512] [B1,B2] [],.b true]) []):=by
 obtain⟨ar,wr,nx,h1,h2,h3,h4,hf⟩:=qW
 obtain⟨S,-,hS,hp⟩:=A7P (sd:=Ad zen) (ob:=noOb) (h:=0) (k:=3) (a:=0) (t:=0) (o:=P) (auth:=[]) (d:=[9]) (by rw[AD1];decide) zaj (A8R P hP) zat zat (fun _=>rfl)
 rw[show GZ noOb=0 from rfl] at hp
 have hu:(Ef 3 0 ⟨[],S,[9]⟩).length=32:=by unfold Ef;rw[if_neg zaj];exact A7 _
 have hb1:(Eh ⟨3,0,0,P,Ef 3 0 ⟨[],S,[9]⟩⟩).length<=1024:=by rw[Js za1 za1];simp only;omega
 have hb2:(nameB ⟨3,0,0,P,Ef 3 0 ⟨[],S,[9]⟩⟩).length<=1024:=by rw[DD];decide
 generalize Eh ⟨3,0,0,P,Ef 3 0 ⟨[],S,[9]⟩⟩=B1 at hp hb1
 generalize nameB ⟨3,0,0,P,Ef 3 0 ⟨[],S,[9]⟩⟩=B2 at hp hb2
 generalize Ef 3 0 ⟨[],S,[9]⟩=U at hp hu
 have ok:=JF 1 zaa
 have hq:=AC8 0 3 0 0 P [] [9] zaa zaa zaa zaa zaa zat zat
 have x1:=A87 (Ad zen) [[],[],[],[]] (BG zen BN [] 32) 2 1 0 0 false 0 0 [] 0 5 100 0 0 1000 [] true false (EI 2) 0 0 true 0 noSs noOb [] [] 0 3 0 0 P [] [9] rfl zaa zat zat zat rfl (by rw[nG]) (by rw[AD1];omega) AEk zaa zat _ _ _ hp hq
 obtain⟨ar1,wr1,ZX,k1,k2,k3,k4,k5,q1⟩:=ZH ar wr 0 nx 0 (Ad zen) [[],[],[],[]] (BG zen BN [] 32) 2 1 0 0 false 0 0 [] 0 5 100 0 0 1000 [] true false (EI 2) 0 0 true 0 noSs noOb [] [] (Ad zen) [[],[],[],[]] (BG zen BN [] 32) 2 1 0 0 false 0 0 [] 0 5 100 0 0 1000 [] true false (EI 2) 0 0 true 0 noSs [((3,0,0,P,U),([],S,[9]),0),Zd,Zd] [] [] 9 3 [0] [(0,[],[])] [3,0,0] [P,[],[9]] 0 [512] [B1,B2] [] hq ⟨.inl rfl,by simp,by simp,by simp,by simp,by intro x hx;simp at hx;rcases hx with rfl|rfl<;>assumption,by simp⟩ ok ok h1 ⟨h2,h3⟩ zaa x1
 have m1:=Qp ar ar1 wr 0 nx wr1 ZX 0 (Ad zen) [[],[],[],[]] (BG zen BN [] 32) 2 1 0 0 false 0 0 [] 0 5 100 0 0 1000 [] true false (EI 2) 0 0 true 0 noSs noOb [] [] (Ad zen) [[],[],[],[]] (BG zen BN [] 32) 2 1 0 0 false 0 0 [] 0 5 100 0 0 1000 [] true false (EI 2) 0 0 true 0 noSs [((3,0,0,P,U),([],S,[9]),0),Zd,Zd] [] [] 9 [0] [(0,[],[])] [3,0,0] [P,[],[9]] 0 1 2 [512] [B1,B2] [] q1 zat rfl rfl rfl
 exact⟨ar,wr,nx,ar1,wr1,ZX,U,S,B1,B2,hu,hS,k1,⟨k2,k3⟩,by have:=k5 rfl;omega,hf,m1⟩
abbrev Zi(P U S:List UInt8):List (El objT):=[((3,0,0,P,U),([],S,[9]),0),Zd,Zd]
theorem AEm(P U S:List UInt8)(hP:P=Wv zen OG)(hU:U.length=32)(ar:List (List UInt8))(wr nx:Int)(h1:PK ar (nx-1) (encS (Ad zen) [[],[],[],[]] (BG zen BN [] 32) 2 1 0 0 false [] 0 0 [] 0 5 100 0 0 1000 []))(h2:0<=wr/\wr<=nx)(h3:nx<=3):∃ ar1 wr1 ZX ar2 wr2 nx2 ar3 wr3 nx3 n s1 s2 s3,
  Y E0 (.call 15 [Jv ar wr 0 0 false (Ad zen) [[],[],[],[]] (BG zen BN [] 32) 2 1 0 0 false [] 0 0 [] 0 5 100 0 0 1000 [] true false (EI 2) 0 0 true 0 noSs (Zi P U S) [] [] true nx,.i 0,rq 16 [] [] [2] [],.i 1,.i 1] [])=some (.ret (.tup [Jv ar1 wr1 0 0 false (Ad zen) [[],[],[],[]] (BG zen BN [] 32) 2 1 0 0 false [] 0 0 [] 0 5 100 0 0 1000 [] true false (EI 2) 0 0 true 1 s1 (Zi P U S) [] [] true ZX,Hr 0 [768] [n] [],.b true]) []) /\
  Y E0 (.call 15 [Jv ar1 wr1 0 0 false (Ad zen) [[],[],[],[]] (BG zen BN [] 32) 2 1 0 0 false [] 0 0 [] 0 5 100 0 0 1000 [] true false (EI 2) 0 0 true 1 s1 (Zi P U S) [] [] true ZX,.i 0,rq 17 [] [] [768,1,0,1,0,0] [[]],.i 0,.i 0] [])=some (.ret (.tup [Jv ar2 wr2 0 0 false (Ad zen) [[],[],[],[]] (BG zen BN [] 32) 2 1 0 0 false [] 0 0 [] 0 5 100 0 0 1000 [] true false (EI 2) 0 0 true 1 s2 (Zi P U S) [] [] true nx2,Hr 0 [] [] [],.b true]) []) /\
  Y E0 (.call 15 [Jv ar2 wr2 0 0 false (Ad zen) [[],[],[],[]] (BG zen BN [] 32) 2 1 0 0 false [] 0 0 [] 0 5 100 0 0 1000 [] true false (EI 2) 0 0 true 1 s2 (Zi P U S) [] [] true nx2,.i 0,rq 13 [512] [(768,[],[])] [] [],.i 0,.i 1] [])=some (.ret (.tup [Jv ar3 wr3 0 0 false (Ad zen) [[],[],[],[]] (BG zen BN [] 32) 2 1 0 0 false [] 0 0 [] 0 5 100 0 0 1000 [] true false (EI 2) 0 0 true 1 s3 (Zi P U S) [] [] true nx3,Hr 0 [] [[9]] [],.b true]) []):=by
 have ok:=JF 1 zaa
 have hq1:=AC6 2 zaa
 have x1:=A7w (Ad zen) [[],[],[],[]] (BG zen BN [] 32) 2 1 0 0 false 0 0 [] 0 5 100 0 0 1000 [] true false (EI 2) 0 0 true 0 noSs (Zi P U S) [] [] 2 zaa zat AEj 0 [] [] 0 0 0 0 false rfl (fun i hi=>by omega) rfl hq1
 obtain⟨n,hn⟩:∃ n,JA (BG zen BN [] 32) 1 0 0 16=n:=⟨_,rfl⟩
 rw[hn,i01,show((0:Nat):Int)=0 from rfl,show(768:Int)+0=768 from rfl] at x1
 have hnl:n.length<=1024:=by rw[<-hn,JA];exact Nat.le_trans (Nat.le_of_eq (Et (n:=16) zaa)) zaj
 obtain⟨ar1,wr1,ZX,k1,k2,k3,k4,k5,q1⟩:=ZH ar wr 0 nx 0 (Ad zen) [[],[],[],[]] (BG zen BN [] 32) 2 1 0 0 false 0 0 [] 0 5 100 0 0 1000 [] true false (EI 2) 0 0 true 0 noSs (Zi P U S) [] [] (Ad zen) [[],[],[],[]] (BG zen BN [] 32) 2 1 0 0 false 0 0 [] 0 5 100 0 0 1000 [] true false (EI 2) 0 0 true 1 (BB noSs 0 (2,n,zen,-1,31,0,0,false)) (Zi P U S) [] [] 16 0 [] [] [2] [] 0 [768] [n] [] hq1 ⟨.inl rfl,by simp,by simp,by simp,by simp,by intro x hx;simp at hx;subst hx;exact hnl,by simp⟩ ok ok h1 h2 zaa x1
 have m1:=Qp ar ar1 wr 0 nx wr1 ZX 0 (Ad zen) [[],[],[],[]] (BG zen BN [] 32) 2 1 0 0 false 0 0 [] 0 5 100 0 0 1000 [] true false (EI 2) 0 0 true 0 noSs (Zi P U S) [] [] (Ad zen) [[],[],[],[]] (BG zen BN [] 32) 2 1 0 0 false 0 0 [] 0 5 100 0 0 1000 [] true false (EI 2) 0 0 true 1 (BB noSs 0 (2,n,zen,-1,31,0,0,false)) (Zi P U S) [] [] 16 [] [] [2] [] 0 1 1 [768] [n] [] q1 zat rfl rfl rfl
 obtain⟨s1,hs1⟩:∃ s1,BB noSs 0 (2,n,zen,-1,31,0,0,false)=s1:=⟨_,rfl⟩
 have hl1:s1.length=3:=by rw[<-hs1,EL,List.length_set];rfl
 have hg1:Ap s1 (768-768)=some (2,n,zen,(-1:Int),31,0,0,false):=by rw[<-hs1,EL];exact nG _ _
 rw[hs1] at m1 q1
 have hq2:=AC7 768 zaa
 have x2:=A86 (Ad zen) [[],[],[],[]] (BG zen BN [] 32) 2 1 0 0 false 0 0 [] 0 5 100 0 0 1000 [] true false (EI 2) 0 0 true 1 s1 (Zi P U S) [] [] 768 31 0 0 n zen false rfl rfl zaa zaa hg1 (by rw[zen_len];decide) hq2
 rw[<-hP,show(768:Int)-768=0 from rfl] at x2
 obtain⟨ar2,wr2,nx2,j1,j2,j3,j4,j5,q2⟩:=ZH ar1 wr1 0 ZX 0 (Ad zen) [[],[],[],[]] (BG zen BN [] 32) 2 1 0 0 false 0 0 [] 0 5 100 0 0 1000 [] true false (EI 2) 0 0 true 1 s1 (Zi P U S) [] [] (Ad zen) [[],[],[],[]] (BG zen BN [] 32) 2 1 0 0 false 0 0 [] 0 5 100 0 0 1000 [] true false (EI 2) 0 0 true 1 (BB s1 0 (2,n,P,0,31,0,0,false)) (Zi P U S) [] [] 17 (-1) [] [] [768,1,0,1,0,0] [[]] 0 [] [] [] hq2 (AD0 0 (.inl rfl)) ok ok k1 ⟨k2,k3⟩ (by have:=k5 rfl;omega) x2
 have m2:=Qp ar1 ar2 wr1 0 ZX wr2 nx2 0 (Ad zen) [[],[],[],[]] (BG zen BN [] 32) 2 1 0 0 false 0 0 [] 0 5 100 0 0 1000 [] true false (EI 2) 0 0 true 1 s1 (Zi P U S) [] [] (Ad zen) [[],[],[],[]] (BG zen BN [] 32) 2 1 0 0 false 0 0 [] 0 5 100 0 0 1000 [] true false (EI 2) 0 0 true 1 (BB s1 0 (2,n,P,0,31,0,0,false)) (Zi P U S) [] [] 17 [] [] [768,1,0,1,0,0] [[]] 0 0 0 [] [] [] q2 zat rfl rfl rfl
 obtain⟨s2,hs2⟩:∃ s2,BB s1 0 (2,n,P,0,31,0,0,false)=s2:=⟨_,rfl⟩
 have hl2:s2.length=3:=by rw[<-hs2,EL,List.length_set,hl1]
 have hg2:Ap s2 (768-768)=some (2,n,P,(0:Int),31,0,0,false):=by
  rw[<-hs2,EL,Bv (by rw[List.length_set,hl1];decide)];simp
 rw[hs2] at m2 q2
 have hq3:=AC9 512 768 zaa zaa [] zat
 have hPl:P.length=32:=by rw[hP];exact ZR _ _
 have x3:=A8A (Ad zen) [[],[],[],[]] (BG zen BN [] 32) 2 1 0 0 false 0 0 [] 0 5 100 0 0 1000 [] true false (EI 2) 0 0 true 1 s2 (Zi P U S) [] [] 512 768 [] [] 3 0 0 P U [] S [9] 0 n rfl zaa rfl zat rfl rfl hPl zaa zaj zaa zaa hg2 hq3
 rw[show(768:Int)-768=0 from rfl] at x3
 obtain⟨ar3,wr3,nx3,i1,i2,i3,i4,i5,q3⟩:=ZH ar2 wr2 0 nx2 0 (Ad zen) [[],[],[],[]] (BG zen BN [] 32) 2 1 0 0 false 0 0 [] 0 5 100 0 0 1000 [] true false (EI 2) 0 0 true 1 s2 (Zi P U S) [] [] (Ad zen) [[],[],[],[]] (BG zen BN [] 32) 2 1 0 0 false 0 0 [] 0 5 100 0 0 1000 [] true false (EI 2) 0 0 true 1 (BB s2 0 uV) (Zi P U S) [] [] 13 0 [512] [(768,[],[])] [] [] 0 [] [[9]] [] hq3 ⟨.inl rfl,by simp,by simp,by simp,by simp,by intro x hx;simp at hx;subst hx;simp,by simp⟩ ok ok j1 ⟨j2,j3⟩ (by have:=k5 rfl;have:=j5 rfl;omega) x3
 have m3:=Qp ar2 ar3 wr2 0 nx2 wr3 nx3 0 (Ad zen) [[],[],[],[]] (BG zen BN [] 32) 2 1 0 0 false 0 0 [] 0 5 100 0 0 1000 [] true false (EI 2) 0 0 true 1 s2 (Zi P U S) [] [] (Ad zen) [[],[],[],[]] (BG zen BN [] 32) 2 1 0 0 false 0 0 [] 0 5 100 0 0 1000 [] true false (EI 2) 0 0 true 1 (BB s2 0 uV) (Zi P U S) [] [] 13 [512] [(768,[],[])] [] [] 0 0 1 [] [[9]] [] q3 zat rfl rfl rfl
 exact⟨ar1,wr1,ZX,ar2,wr2,nx2,ar3,wr3,nx3,n,s1,s2,_,m1,m2,m3⟩
end Go.Proofs.YtlpkjhhfhannpaaGreatDoor
