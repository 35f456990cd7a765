/-
  Own texts, laid together for this claim: contracts of functions of the program and its references, used by the statements of this seat.
-/
import Derived.Test.YtnhgnfdbdflhcaaGreatDoorProg
import Derived.Test.YtnhgnfdbdflhcaaGreatDoorRows
import Derived.Test.YtnhgnfdbdflhcaaGreatDoorCards
import Derived.Test.YtnhgnfdbdflhcaaGreatDoorTie
import Derived.WalkKit
import Derived.ProofKit
import Derived.OpenShut
import Derived.Carry
import Derived.ChangeSlices
import Derived.Deep.DeepHandedRow
import Derived.Lib.LaidTab
import Derived.JoinedCond
import Derived.Test.YtnhgnfdbdflhcaaGreatDoorMgd
set_option linter.all false
set_option maxHeartbeats 40000000
set_option maxRecDepth 100000
namespace Go.Ax
def A2b(C:CT):FT->Bool
 | []=>true
 | (f,_)::r=>(match y9 f C with|some fn => !(fn.name == "runtime.NumGoroutine")&&fn.body.isSome|none=>false)&&A2b C r
theorem sZ{P:Program}{C:CT}(hc:CTok P C):∀ {G:FT},A2b C G=true->EntL P G
 | [],_=>.nil
 | (f,v)::r,h=>by
  simp only[A2b,Bool.and_eq_true] at h
  refine .cons ?_ (sZ hc h.2)
  have h1:=h.1
  split at h1
  ·rename_i fn hf
   simp only[Bool.and_eq_true,Bool.not_eq_true'] at h1
   obtain⟨c,hb⟩:=Option.isSome_iff_exists.1 h1.2
   exact Go.Eng.Ent.mk (hc.get _ _ hf) h1.1 hb
  ·cases h1
theorem A0Q{P:Program}{C:CT}{G:FT}(hc:CTok P C)(h:A2b C G=true):bM P G:=A2S (sZ hc h)
end Go.Ax
namespace Go.Ax
open Go Go.Eng Go.RowKit
def glB(g0:Nat)(tab:List UInt32):TT->Bool
 | []=>true
 | (_,i)::r=>(match i.gl with|[]=>true|(g,l)::[]=>Nat.beq g g0&&decide (l=tab)|_=>false)&&glB g0 tab r
theorem A0S{g0:Nat}{tab:List UInt32}:∀ {T:TT},glB g0 tab T=true->∀ t i g l,TE t T=some i->glk g i.gl=some l->g=g0/\l=tab
 | [],_,t,i,g,l,h,_=>zaU
 | (d,v)::r,h,t,i,g,l,h1,h2=>by
  simp only[glB,Bool.and_eq_true] at h
  simp only[TE] at h1
  cases hb:Nat.beq t d with
  | false=>rw[hb] at h1;exact A0S h.2 t i g l h1 h2
  | true =>
   rw[hb] at h1
   obtain rfl:=Option.some.inj h1
   have h3:=h.1
   split at h3
   ·rename_i e;rw[e] at h2;cases h2
   ·rename_i g' l' e
    rw[e] at h2
    simp only[Bool.and_eq_true,decide_eq_true_eq] at h3
    simp only[glk] at h2
    cases hg:Nat.beq g g' with
    | false=>rw[hg] at h2;cases h2
    | true=>rw[hg] at h2;exact⟨(Gs hg).trans (Gs h3.1),(Option.some.inj h2).symm.trans h3.2⟩
   ·cases h3
end Go.Ax
namespace Go.Ax
open Go Go.Eng
variable (a0 a1 a2 a3 a4 a5 a6 a7:UInt32)
def Hy(ws:List UInt32):Nat->Nat->List UInt32->List UInt32
 | 0,_,s=>s
 | k+1,t,s=>Hy ws k (t+1) (aS (JB.getD t 0) (ws.getD t 0) s)
theorem Xv(ws s:List UInt32):∀(k t:Nat),Hy ws k t (O3 ws s t)=O3 ws s (t+k)
 | 0,t=>rfl
 | k+1,t=>by rw[show t+(k+1)=t+1+k from by omega,<-Xv ws s k (t+1)];rfl
theorem A0j{t:Nat}(h:t<64):BZ JB (t:Int)=some (JB.getD t 0):=by
 rw[E8 ⟨by omega,by show(t:Int)<64;omega⟩];simp[List.getD,show t<JB.length from h]
theorem QQ(ws:List UInt32):∀(k t:Nat) (s:List UInt32),s.length=8->(Hy ws k t s).length=8
 | 0,_,_,h=>h
 | k+1,t,s,_=>QQ ws k (t+1) _ rfl
theorem wK(h0 h1 h2 h3 h4 h5 h6 h7:UInt32)(b:List UInt8):Eh [h0,h1,h2,h3,h4,h5,h6,h7] b=(List.range 8).map fun i=>[h0,h1,h2,h3,h4,h5,h6,h7].getD i 0+(Hy (Ep b 64) 64 0 [h0,h1,h2,h3,h4,h5,h6,h7]).getD i 0:=by
 have hl:=QQ (Ep b 64) 64 0 [h0,h1,h2,h3,h4,h5,h6,h7] rfl
 rw[Eh,<-show Hy (Ep b 64) 64 0 [h0,h1,h2,h3,h4,h5,h6,h7]=O3 (Ep b 64) [h0,h1,h2,h3,h4,h5,h6,h7] 64 from Xv _ _ 64 0]
 revert hl
 generalize Hy (Ep b 64) 64 0 [h0,h1,h2,h3,h4,h5,h6,h7]=l
 intro hl
 match l,hl with
 | [_,_,_,_,_,_,_,_],_=>rfl
def Dp(ws:List UInt32):Nat->Nat->S5->S5
 | 0,_,s=>s
 | k+1,t,s=>Dp ws k (t+1) (Sm t (ws.getD t 0) s)
theorem Za(ws:List UInt32)(s:S5):∀(k t:Nat),Dp ws k t (fM ws s t)=fM ws s (t+k)
 | 0,t=>rfl
 | k+1,t=>by rw[show t+(k+1)=t+1+k from by omega,<-Za ws s k (t+1)];rfl
theorem tV(t:Nat)(w a b c d e f q:UInt32)(hf:f=f1 t b c d)(hq:q=k1 t):Sm t w ⟨a,b,c,d,e⟩=⟨fH a 5+f+e+q+w,a,fH b 30,c,d⟩:=by subst hf hq;rfl
theorem tX(h0 h1 h2 h3 h4:UInt32)(b:List UInt8):KU [h0,h1,h2,h3,h4] b=[h0+(Dp (KR b 80) 80 0 ⟨h0,h1,h2,h3,h4⟩).a,h1+(Dp (KR b 80) 80 0 ⟨h0,h1,h2,h3,h4⟩).b,h2+(Dp (KR b 80) 80 0 ⟨h0,h1,h2,h3,h4⟩).c,h3+(Dp (KR b 80) 80 0 ⟨h0,h1,h2,h3,h4⟩).d,h4+(Dp (KR b 80) 80 0 ⟨h0,h1,h2,h3,h4⟩).e]:=by
 rw[show Dp (KR b 80) 80 0 ⟨h0,h1,h2,h3,h4⟩=fM (KR b 80) ⟨h0,h1,h2,h3,h4⟩ 80 from Za _ _ 80 0];rfl
theorem A3T(x:UInt32):[Bo (BB x 24),Bo (BB x 16),Bo (BB x 8),Bo x]=wb x:=by
 rw[I5 zal,I5 zal,I5 zal];simp only[aY];rfl
theorem U0{ws:List UInt32}{j:Nat}(h:j<ws.length):IE (ws.drop j)=wb (ws.getD j 0)++IE (ws.drop (j+1)):=by
 rw[List.drop_eq_getElem_cons h];simp only[IE,List.flatMap_cons,List.getD,List.getElem?_eq_getElem h,Option.getD_some]
theorem PR{ws:List UInt32}{j:Nat}(h:j<ws.length):BZ ws (j:Int)=some (ws.getD j 0):=by
 rw[E8 ⟨by omega,by omega⟩];simp[List.getD,h]
theorem iq(n:UInt64)(i:Int)(c:Nat)(h:(c:Int)=i/\c<64):C9 (BK n (Bh i).toNat)=(n>>>UInt64.ofNat c).toUInt8:=by
 obtain⟨rfl,h⟩:=h
 rw[Ti,LJ,Jr zaa,QL zaa];rfl
theorem Vp(n m:UInt64)(c:Nat)(h:m.toNat=c)(hc:c<64):C9 (BK n m.toNat)=(n>>>UInt64.ofNat c).toUInt8:=by
 subst h;rw[Ti,QL hc]
theorem A0l(l:List UInt8):Bl .mul (Bh (l.length:Int)) (UInt64.ofNat 8)=UInt64.ofInt (l.length:Int)*8:=by rw[Eb,LJ];rfl
theorem A5V{l:List UInt32}(h:l.length=5):[l.getD 0 0,l.getD 1 0,l.getD 2 0,l.getD 3 0,l.getD 4 0]=l:=by
 match l,h with
 | [_,_,_,_,_],_=>rfl
theorem A4a{l:List UInt32}(h:l.length=8):[l.getD 0 0,l.getD 1 0,l.getD 2 0,l.getD 3 0,l.getD 4 0,l.getD 5 0,l.getD 6 0,l.getD 7 0]=l:=by
 match l,h with
 | [_,_,_,_,_,_,_,_],_=>rfl
theorem A3U{p:List UInt8}(h:64<=p.length):List.take (Be p-64).toNat (List.drop (Int.toNat 64) p)=p.drop 64:=by
 rw[BF];exact List.take_of_length_le zaO
theorem H7:JB.length=64:=rfl
theorem A5W:BZ [a0,a1,a2,a3,a4,a5,a6,a7] 0=some a0:=JD zal rfl
theorem A0o:BZ [a0,a1,a2,a3,a4,a5,a6,a7] 1=some a1:=JD zal rfl
theorem A0p:BZ [a0,a1,a2,a3,a4,a5,a6,a7] 2=some a2:=JD zal rfl
theorem A5X:BZ [a0,a1,a2,a3,a4,a5,a6,a7] 3=some a3:=JD zal rfl
theorem A5Y:BZ [a0,a1,a2,a3,a4,a5,a6,a7] 4=some a4:=JD zal rfl
theorem A3W:BZ [a0,a1,a2,a3,a4,a5,a6,a7] 5=some a5:=JD zal rfl
theorem A3X:BZ [a0,a1,a2,a3,a4,a5,a6,a7] 6=some a6:=JD zal rfl
theorem A5Z:BZ [a0,a1,a2,a3,a4,a5,a6,a7] 7=some a7:=JD zal rfl
end Go.Ax
namespace Go.Proofs.YtnhgnfdbdflhcaaGreatDoor
open Go Go.RowKit Go.Eng Go.Ax
abbrev N0:Plc:=⟨some [],[],none,false⟩
abbrev N1:Plc:=⟨none,[],none,false⟩
abbrev Yt:Ty:=.pair (.sl (.sl (.sl .u8))) .i64
abbrev lT:Ty:=.pair .i64 (.pair .i64 (.pair .i64 (.pair .i64 (.pair (.sl .u8) (.pair (.sl .u8) (.pair .bool (.sl .u8)))))))
abbrev nN:Ty:=.pair .i64 (.pair .i64 (.pair .i64 (.pair .i64 (.pair .i64 .i64))))
abbrev tyL:Ty:=.pair (.sl (.sl .u8)) (.pair (.sl (.sl .u8)) (.pair (.sl .u8) (.pair .i64 (.pair .i64 (.pair .i64 (.pair .i64 (.pair .bool (.pair Yt (.pair .i64 (.pair (.sl lT) (.pair nN (.sl (.pair (.sl .u8) .i64)))))))))))))
abbrev tyI:Ty:=.pair .i64 (.pair (.sl .u8) (.pair (.sl .u8) (.pair .i64 (.pair .i64 (.pair .i64 (.pair .i64 .bool))))))
abbrev ZZ:Ty:=.pair .i64 (.pair .i64 (.pair .i64 (.pair (.sl .u8) (.sl .u8))))
abbrev yB:Ty:=.pair (.sl .u8) (.pair (.sl .u8) (.sl .u8))
abbrev nO:Ty:=.pair ZZ (.pair yB .i64)
abbrev Ef:Ty:=.pair tyL (.pair .bool (.pair .bool (.pair Yt (.pair .i64 (.pair .bool (.pair .i64 (.pair (.sl tyI) (.pair (.sl nO) (.pair (.sl .i64) (.sl .i64))))))))))
abbrev MW:Ty:=.pair .i64 (.pair (.sl .i64) (.pair (.sl (.pair .i64 (.pair (.sl .u8) (.sl .u8)))) (.pair (.sl .i64) (.sl (.sl .u8)))))
abbrev V9:Ty:=.pair .i64 (.pair (.sl .i64) (.pair (.sl (.sl .u8)) (.sl (.sl .u8))))
abbrev tyF:Ty:=.pair .i64 (.pair (.pair .i64 .i64) (.pair (.sl .u8) (.pair .i64 (.pair .i64 (.pair (.sl .u8) (.pair (.sl .u8) (.pair (.sl .u8) (.sl (.sl .u8)))))))))
abbrev tyK:Ty:=.pair (.sl .u8) (.pair (.sl .u8) (.pair .i64 (.pair .i64 (.pair .i64 (.pair .bool (.pair .i64 (.pair (.pair .i64 .i64) (.sl .u8))))))))
def TT0:TT:=[
 (22,⟨(.sl 5),1,24,[.nil],some (.sl .u8),false,0,[]⟩),
 (3,⟨.i64,1,8,[.i 0],some .i64,false,0,[]⟩),
 (4,⟨.bool,1,1,[.b false],some .bool,false,0,[]⟩),
 (40,⟨(.fld [(0,19),(19,11)] [false,false]),30,408,[.nil,.nil,.nil,.i 0,.i 0,.i 0,.i 0,.b false,.nil,.i 0,.i 0,.nil,.i 0,.i 0,.i 0,.i 0,.i 0,.i 0,.nil,.b false,.b false,.nil,.i 0,.i 0,.b false,.i 0,.nil,.nil,.nil,.nil],some Ef,false,0,[]⟩),
 (35,⟨(.sl 94),1,24,[.nil],some (.sl nO),false,0,[]⟩),
 (38,⟨(.fld [(0,1),(1,1),(2,2),(4,1),(5,1),(6,1),(7,1),(8,1),(9,1),(10,1)] [true,true,false,true,true,true,true,true,true,true]),11,160,[.b false,.b false,.nil,.i 0,.i 0,.b false,.i 0,.nil,.nil,.nil,.nil],some (.pair .bool (.pair .bool (.pair Yt (.pair .i64 (.pair .bool (.pair .i64 (.pair (.sl tyI) (.pair (.sl nO) (.pair (.sl .i64) (.sl .i64)))))))))),false,0,[]⟩),
 (33,⟨(.fld [(0,1),(1,1),(2,1),(3,1),(4,1),(5,1),(6,1),(7,1),(8,2),(10,1),(11,1),(12,6),(18,1)] [true,true,true,true,true,true,true,true,false,true,true,false,true]),19,248,[.nil,.nil,.nil,.i 0,.i 0,.i 0,.i 0,.b false,.nil,.i 0,.i 0,.nil,.i 0,.i 0,.i 0,.i 0,.i 0,.i 0,.nil],some tyL,false,0,[]⟩),
 (31,⟨(.sl 190),1,24,[.nil],some (.sl (.pair (.sl .u8) .i64)),false,0,[]⟩),
 (49,⟨(.fld [(0,1),(1,1),(2,1),(3,1),(4,1)] [true,true,true,true,true]),5,104,[.i 0,.nil,.nil,.nil,.nil],some MW,false,0,[]⟩),
 (44,⟨(.fld [(0,1),(1,1),(2,1),(3,1)] [true,true,true,true]),4,80,[.i 0,.nil,.nil,.nil],some V9,false,0,[]⟩),
 (42,⟨.i64,1,8,[.i 0],some .i64,false,0,[]⟩),
 (24,⟨(.sl 22),1,24,[.nil],some (.sl (.sl .u8)),false,0,[]⟩),
 (53,⟨(.fld [(0,1),(1,1),(2,1),(3,1),(4,1)] [true,true,true,true,true]),5,72,[.i 0,.i 0,.i 0,.nil,.nil],some ZZ,false,0,[]⟩),
 (36,⟨(.sl 3),1,24,[.nil],some (.sl .i64),false,0,[]⟩),
 (60,⟨(.fld [(0,1),(1,1),(2,1),(3,1),(4,1),(5,1),(6,1),(7,2),(9,1)] [true,true,true,true,true,true,true,false,true]),10,128,[.nil,.nil,.i 0,.i 0,.i 0,.b false,.i 0,.i 0,.i 0,.nil],some tyK,false,0,[]⟩),
 (27,⟨(.fld [(0,1),(1,1)] [true,true]),2,32,[.nil,.i 0],some Yt,false,0,[]⟩),
 (58,⟨(.arr 2 3),2,16,[.i 0,.i 0],some (.pair .i64 .i64),true,0,[]⟩),
 (5,⟨.u8,1,1,[.u8 0],some .u8,false,0,[]⟩),
 (9,⟨.str,1,16,[.str []],some .str,false,0,[]⟩),
 (88,⟨(.fld [(0,1),(1,1),(2,1)] [true,true,true]),3,72,[.nil,.nil,.nil],some yB,false,0,[]⟩),
 (94,⟨(.fld [(0,5),(5,3),(8,1)] [false,false,true]),9,152,[.i 0,.i 0,.i 0,.nil,.nil,.nil,.nil,.nil,.i 0],some nO,false,0,[]⟩),
 (96,⟨(.ptr 141),1,8,[.un],none,false,0,[]⟩),
 (34,⟨(.sl 171),1,24,[.nil],some (.sl tyI),false,0,[]⟩),
 (25,⟨(.sl 24),1,24,[.nil],some (.sl (.sl (.sl .u8))),false,0,[]⟩),
 (134,⟨.u32,1,4,[.u32 0],some .u32,false,0,[]⟩),
 (135,⟨.u64,1,8,[.u64 0],some .u64,false,0,[]⟩),
 (141,⟨(.fld [(0,1),(1,1),(2,1)] [true,true,true]),3,40,[.nil,.i 0,.i 0],some (.pair (.sl .u8) (.pair .i64 .i64)),false,0,[]⟩),
 (143,⟨.u64,1,8,[.u64 0],some .u64,false,0,[]⟩),
 (30,⟨(.fld [(0,1),(1,1),(2,1),(3,1),(4,1),(5,1)] [true,true,true,true,true,true]),6,48,[.i 0,.i 0,.i 0,.i 0,.i 0,.i 0],some nN,false,6,[]⟩),
 (192,⟨.oth,1,8,[.un],none,false,0,[]⟩),
 (190,⟨(.fld [(0,1),(1,1)] [true,true]),2,32,[.nil,.i 0],some (.pair (.sl .u8) .i64),false,0,[]⟩),
 (47,⟨(.sl 70),1,24,[.nil],some (.sl (.pair .i64 (.pair (.sl .u8) (.sl .u8)))),false,0,[]⟩),
 (227,⟨(.arr 5 134),5,20,[.u32 0,.u32 0,.u32 0,.u32 0,.u32 0],some (.pair .u32 (.pair .u32 (.pair .u32 (.pair .u32 .u32)))),false,0,[]⟩),
 (229,⟨(.ptr 227),1,8,[.un],none,false,0,[]⟩),
 (231,⟨(.sl 134),1,24,[.nil],some (.sl .u32),false,0,[]⟩),
 (232,⟨(.arr 8 134),8,32,[.u32 0,.u32 0,.u32 0,.u32 0,.u32 0,.u32 0,.u32 0,.u32 0],some (.pair .u32 (.pair .u32 (.pair .u32 (.pair .u32 (.pair .u32 (.pair .u32 (.pair .u32 .u32))))))),false,0,[]⟩),
 (234,⟨(.ptr 232),1,8,[.un],none,false,0,[]⟩),
 (99,⟨.oth,1,8,[.un],none,false,0,[]⟩),
 (98,⟨.oth,1,8,[.un],none,false,0,[]⟩),
 (238,⟨(.arr 64 134),64,256,[.u32 0,.u32 0,.u32 0,.u32 0,.u32 0,.u32 0,.u32 0,.u32 0,.u32 0,.u32 0,.u32 0,.u32 0,.u32 0,.u32 0,.u32 0,.u32 0,.u32 0,.u32 0,.u32 0,.u32 0,.u32 0,.u32 0,.u32 0,.u32 0,.u32 0,.u32 0,.u32 0,.u32 0,.u32 0,.u32 0,.u32 0,.u32 0,.u32 0,.u32 0,.u32 0,.u32 0,.u32 0,.u32 0,.u32 0,.u32 0,.u32 0,.u32 0,.u32 0,.u32 0,.u32 0,.u32 0,.u32 0,.u32 0,.u32 0,.u32 0,.u32 0,.u32 0,.u32 0,.u32 0,.u32 0,.u32 0,.u32 0,.u32 0,.u32 0,.u32 0,.u32 0,.u32 0,.u32 0,.u32 0],none,false,0,[(0,JB)]⟩),
 (171,⟨(.fld [(0,1),(1,1),(2,1),(3,1),(4,1),(5,1),(6,1),(7,1)] [true,true,true,true,true,true,true,true]),8,96,[.i 0,.nil,.nil,.i 0,.i 0,.i 0,.i 0,.b false],some tyI,false,0,[]⟩),
 (28,⟨(.sl 178),1,24,[.nil],some (.sl lT),false,0,[]⟩),
 (178,⟨(.fld [(0,1),(1,1),(2,1),(3,1),(4,1),(5,1),(6,1),(7,1)] [true,true,true,true,true,true,true,true]),8,112,[.i 0,.i 0,.i 0,.i 0,.nil,.nil,.b false,.nil],some lT,false,0,[]⟩),
 (70,⟨(.fld [(0,1),(1,1),(2,1)] [true,true,true]),3,56,[.i 0,.nil,.nil],some (.pair .i64 (.pair (.sl .u8) (.sl .u8))),false,0,[]⟩),
 (152,⟨(.arr 4 3),4,32,[.i 0,.i 0,.i 0,.i 0],some (.pair .i64 (.pair .i64 (.pair .i64 .i64))),false,0,[]⟩),
 (258,⟨(.arr 80 134),80,320,[.u32 0,.u32 0,.u32 0,.u32 0,.u32 0,.u32 0,.u32 0,.u32 0,.u32 0,.u32 0,.u32 0,.u32 0,.u32 0,.u32 0,.u32 0,.u32 0,.u32 0,.u32 0,.u32 0,.u32 0,.u32 0,.u32 0,.u32 0,.u32 0,.u32 0,.u32 0,.u32 0,.u32 0,.u32 0,.u32 0,.u32 0,.u32 0,.u32 0,.u32 0,.u32 0,.u32 0,.u32 0,.u32 0,.u32 0,.u32 0,.u32 0,.u32 0,.u32 0,.u32 0,.u32 0,.u32 0,.u32 0,.u32 0,.u32 0,.u32 0,.u32 0,.u32 0,.u32 0,.u32 0,.u32 0,.u32 0,.u32 0,.u32 0,.u32 0,.u32 0,.u32 0,.u32 0,.u32 0,.u32 0,.u32 0,.u32 0,.u32 0,.u32 0,.u32 0,.u32 0,.u32 0,.u32 0,.u32 0,.u32 0,.u32 0,.u32 0,.u32 0,.u32 0,.u32 0,.u32 0],none,false,0,[]⟩),
 (57,⟨(.arr 2 3),2,16,[.i 0,.i 0],some (.pair .i64 .i64),true,0,[]⟩),
 (220,⟨(.fld [(0,1),(1,2),(3,1),(4,1),(5,1),(6,1),(7,1),(8,1),(9,1)] [true,false,true,true,true,true,true,true,true]),10,160,[.i 0,.i 0,.i 0,.nil,.i 0,.i 0,.nil,.nil,.nil,.nil],some tyF,false,0,[]⟩),
 (221,⟨(.sl 220),1,24,[.nil],some (.sl tyF),false,0,[]⟩),
 (200,⟨(.arr 34 152),136,1088,[.i 0,.i 0,.i 0,.i 0,.i 0,.i 0,.i 0,.i 0,.i 0,.i 0,.i 0,.i 0,.i 0,.i 0,.i 0,.i 0,.i 0,.i 0,.i 0,.i 0,.i 0,.i 0,.i 0,.i 0,.i 0,.i 0,.i 0,.i 0,.i 0,.i 0,.i 0,.i 0,.i 0,.i 0,.i 0,.i 0,.i 0,.i 0,.i 0,.i 0,.i 0,.i 0,.i 0,.i 0,.i 0,.i 0,.i 0,.i 0,.i 0,.i 0,.i 0,.i 0,.i 0,.i 0,.i 0,.i 0,.i 0,.i 0,.i 0,.i 0,.i 0,.i 0,.i 0,.i 0,.i 0,.i 0,.i 0,.i 0,.i 0,.i 0,.i 0,.i 0,.i 0,.i 0,.i 0,.i 0,.i 0,.i 0,.i 0,.i 0,.i 0,.i 0,.i 0,.i 0,.i 0,.i 0,.i 0,.i 0,.i 0,.i 0,.i 0,.i 0,.i 0,.i 0,.i 0,.i 0,.i 0,.i 0,.i 0,.i 0,.i 0,.i 0,.i 0,.i 0,.i 0,.i 0,.i 0,.i 0,.i 0,.i 0,.i 0,.i 0,.i 0,.i 0,.i 0,.i 0,.i 0,.i 0,.i 0,.i 0,.i 0,.i 0,.i 0,.i 0,.i 0,.i 0,.i 0,.i 0,.i 0,.i 0,.i 0,.i 0,.i 0,.i 0,.i 0,.i 0],none,false,0,[]⟩)]
def FT0:FT:=[
 (3,⟨[some (.sl .u8),some .i64,some (.sl .u8),some (.sl .u8)],[some .bool],false,false,[],[(1,⟨some [999999],[],none,false⟩),(5,⟨some [999999],[],none,false⟩),(8,⟨some [999999],[],none,false⟩),(11,⟨some [999999],[],none,false⟩),(12,⟨some [999999],[],none,false⟩),(14,⟨some [999999],[],none,false⟩),(17,⟨some [999999],[],none,false⟩),(18,⟨some [999999],[],none,false⟩),(19,⟨some [999999],[],none,false⟩)],N1,false⟩),
 (6,⟨[],[some .bool],false,false,[],[(1,N0),(4,N0)],N1,false⟩),
 (7,⟨[some .i64,some (.sl .u8),some (.sl .u8)],[some Ef],false,false,[],[(1,N0),(2,N0),(3,N0)],N1,false⟩),
 (10,⟨[some (.sl .u8)],[some (.sl .u8)],false,false,[],[],N1,false⟩),
 (9,⟨[some .i64,some .i64,some .i64,some .i64,some (.sl .u8),some (.sl .u8),some (.sl .u8)],[some MW],false,false,[],[],N1,false⟩),
 (8,⟨[some Ef,some MW],[some Ef,some V9],false,false,[],[(1,N0),(3,N0),(4,N0),(5,N0),(6,N0),(7,N0),(8,N0),(10,N0),(11,N0),(13,N0),(14,N0)],N1,false⟩),
 (11,⟨[some (.sl .u8)],[some ZZ,some .i64],false,false,[],[(1,N0),(3,N0),(4,N0),(5,N0),(6,N0),(7,N0),(8,N0),(10,N0),(11,⟨some [],[],some [2,5,6],true⟩)],N1,false⟩),
 (12,⟨[some .i64,some .i64,some (.sl (.sl .u8))],[some MW],false,false,[],[],N1,false⟩),
 (13,⟨[some Ef,some MW],[some Ef,some V9],false,false,[],[(1,N0),(3,N0),(4,N0),(5,N0),(7,N0),(8,N0),(9,N0),(11,N0)],N1,false⟩),
 (14,⟨[some ZZ,some (.sl .u8),some (.sl .u8)],[some tyK,some .i64,some .i64],false,false,[],[(1,N0),(8,N0),(11,N0),(14,N0)],N1,false⟩),
 (15,⟨[some Ef,some MW],[some Ef,some V9],false,false,[],[(1,N0),(3,N0),(5,N0),(7,N0),(9,N0),(10,N0),(12,N0),(14,N0),(15,N0),(17,N0)],N1,false⟩),
 (16,⟨[some (.sl .u8),some (.sl .u8)],[some .bool],false,false,[(⟨some [],[],some [0,1,5],false⟩,⟨some [],[],some [4],false⟩)],[],N1,false⟩),
 (17,⟨[some (.sl (.sl .u8)),some (.sl (.sl .u8))],[some .bool],false,false,[(⟨some [],[],some [0,1,5],false⟩,⟨some [],[],some [4],false⟩)],[(6,N0)],N1,false⟩),
 (24,⟨[some Ef,some MW],[some Ef,some V9],false,false,[],[(1,N0),(3,N0),(5,N0)],N1,false⟩),
 (25,⟨[some (.sl .u8),some .i64],[some tyL,some .i64],false,false,[(⟨some [],[],some [0,4,6,7],false⟩,⟨some [],[],some [4,6],false⟩)],[(3,N0),(7,N0)],N1,false⟩),
 (27,⟨[some tyL],[some Ef],false,false,[],[],N1,false⟩),
 (26,⟨[some Ef,some .i64],[some Ef,some .i64],false,false,[],[(10,N0),(12,N0),(13,⟨some [],[],some [2,4],true⟩)],N1,false⟩),
 (28,⟨[some Ef,some (.sl .u8),some (.sl .u8),some .i64],[some Ef],false,false,[(⟨some [],[],some [1,2,3,4,8,9],false⟩,⟨some [],[],some [4,8],false⟩)],[(4,N0),(5,N0)],N1,false⟩),
 (29,⟨[some MW],[some .i64],false,false,[],[],N1,false⟩),
 (30,⟨[some Ef,some .i64],[some Ef,some V9],false,false,[],[],N1,false⟩),
 (31,⟨[some MW],[some ZZ],false,false,[],[(1,N0)],N1,false⟩),
 (32,⟨[some MW,some .i64],[some (.sl .u8)],false,false,[],[],N1,false⟩),
 (33,⟨[some .i64,some (.sl (.sl .u8))],[some (.sl .u8)],false,false,[(⟨some [5],[(5,5,.u8)],some [5,12,13,14],false⟩,⟨some [],[],some [5],false⟩)],[],N1,false⟩),
 (34,⟨[some (.sl .u8),some .str,some (.sl .u8),some .i64],[some (.sl .u8)],false,false,[(⟨some [10],[(10,5,.u8)],some [0,3,9,10,11],false⟩,⟨some [],[],some [3,10],false⟩)],[(4,⟨some [9],[(9,5,.u8)],none,false⟩),(9,⟨some [10],[(10,5,.u8)],none,false⟩)],N1,false⟩),
 (35,⟨[some (.sl .u8),some ZZ,some (.sl .u8),some (.sl .u8)],[some ZZ,some yB,some .i64],false,false,[],[(6,⟨some [],[],some [0,2,3,8,9,11,12],true⟩),(8,N0),(10,N0),(12,N0),(13,N0),(14,N0)],N1,false⟩),
 (36,⟨[some Ef,some nO],[some Ef,some .i64,some .i64],false,false,[(⟨some [],[],some [2,3,4,11,12,13],false⟩,⟨some [],[],some [2,4,5,6],false⟩)],[(5,N0)],N1,false⟩),
 (37,⟨[some ZZ],[some (.sl .u8)],false,false,[],[(1,N0)],N1,false⟩),
 (38,⟨[some ZZ],[some (.sl .u8)],false,false,[],[(1,N0)],N1,false⟩),
 (39,⟨[some (.sl .u8)],[none],false,false,[],[],N1,false⟩),
 (40,⟨[none,some .i64],[some .i64],false,false,[(⟨some [],[],some [0,1,5,6],false⟩,⟨some [],[],some [0,1,5],false⟩)],[(3,⟨some [],[],some [0,1],true⟩)],N1,false⟩),
 (41,⟨[none,some .i64],[some (.sl .u8)],false,false,[],[(1,N0),(7,N0)],N1,false⟩),
 (42,⟨[none],[some .i64],false,false,[],[(1,N0)],N1,false⟩),
 (43,⟨[some ZZ],[some .i64],false,false,[],[(5,N0)],N1,false⟩),
 (44,⟨[some Ef,some MW,some .bool],[some nO,some .i64],false,false,[],[(1,N0),(8,N0)],N1,false⟩),
 (45,⟨[some MW,some .i64],[some .i64],false,false,[],[],N1,false⟩),
 (46,⟨[some Yt,some (.pair .i64 .i64)],[some (.sl .u8),some .i64],false,false,[(⟨some [7],[(7,5,.u8)],some [2,3,6,7,13,14],false⟩,⟨some [7],[(7,5,.u8)],some [2,3,4,5,6,7],false⟩),(⟨some [7],[(7,5,.u8)],some [2,6,7,27,28],false⟩,⟨some [],[],some [4,5,6,7],false⟩),(⟨some [7],[(7,5,.u8)],some [2,6,7,10,11,27,28,40],false⟩,⟨some [7],[(7,5,.u8)],some [2,6,7,27,28],false⟩)],[(7,⟨some [7],[(7,5,.u8)],none,false⟩),(12,⟨some [7],[(7,5,.u8)],none,false⟩),(19,⟨some [7],[(7,5,.u8)],some [2,6,7,10,11,27,28,40],true⟩),(21,N0)],N1,false⟩),
 (47,⟨[some tyK],[some (.sl .u8)],false,false,[(⟨some [3],[(3,5,.u8)],some [1,3,37,38],false⟩,⟨some [3],[(3,5,.u8)],some [1,3],false⟩)],[(1,N0),(2,N0),(3,N0),(4,N0),(8,⟨some [],[],some [1,3,4],true⟩),(9,N0),(13,N0)],N1,false⟩),
 (48,⟨[some Ef,some nO,some (.sl .u8)],[some Ef,some (.sl .u8),some .i64],false,false,[],[(1,N0),(4,N0)],N1,false⟩),
 (49,⟨[some (.sl .u8),some (.sl .u8),some (.sl .u8)],[some .i64,some .bool],false,false,[(⟨some [13],[(13,22,(.sl .u8))],some [0,2,8,9,10,11,13,14],false⟩,⟨some [],[],some [0,9,11,13],false⟩)],[(8,N0),(15,N0)],N1,false⟩),
 (50,⟨[some (.sl .u8)],[some tyK,some .i64],false,false,[],[(1,N0),(2,N0),(5,N0),(8,N0),(9,N0),(10,N0),(11,N0),(12,N0),(13,N0),(14,N0),(15,N0),(16,N0),(17,N0),(18,N0)],N1,false⟩),
 (51,⟨[some ZZ],[some (.sl .u8)],false,false,[],[(1,N0)],N1,false⟩),
 (52,⟨[some Ef,some MW],[some nO],false,false,[],[(1,N0)],N1,false⟩),
 (53,⟨[some Ef,some .i64],[some Ef,some V9],false,false,[],[],N1,false⟩),
 (54,⟨[some Yt,some (.pair .i64 .i64)],[some (.sl .u8),some .i64],false,false,[(⟨some [],[],some [2,3,6],false⟩,⟨some [],[],some [2,3,4,5],false⟩),(⟨some [7],[(7,5,.u8)],some [2,3,7,8],false⟩,⟨some [],[],some [3,4,5,7],false⟩),(⟨some [7],[(7,5,.u8)],some [2,3,7,8,9],false⟩,⟨some [7],[(7,5,.u8)],some [2,3,7,8],false⟩)],[(10,⟨some [7],[(7,5,.u8)],none,false⟩),(14,⟨some [7],[(7,5,.u8)],some [2,3,7,8,9],true⟩),(17,N0)],N1,false⟩),
 (55,⟨[some tyK],[none],true,false,[],[(1,N0),(2,N0),(6,⟨some [3],[(3,5,.u8)],some [1,3,4],true⟩),(7,N0)],⟨none,[(2,5,.u8)],none,false⟩,false⟩),
 (56,⟨[some Ef,some nO,some (.sl .u8)],[some Ef,some (.sl .u8),some .i64],false,false,[],[(1,N0),(4,N0)],N1,false⟩),
 (85,⟨[some Ef,some .i64],[some nO,some .i64],false,false,[],[],N1,false⟩),
 (86,⟨[some (.sl .u8),some .str,some (.sl .u8),some .i64],[some (.sl .u8)],false,false,[(⟨some [9],[(9,5,.u8)],some [0,1,2,3,9,10],false⟩,⟨some [],[],some [3,9],false⟩)],[(7,⟨some [9],[(9,5,.u8)],none,false⟩),(8,⟨some [9,11],[(9,5,.u8),(11,5,.u8)],none,false⟩),(9,⟨some [9],[(9,5,.u8)],none,false⟩)],N1,false⟩),
 (87,⟨[],[some nN],false,false,[],[],N1,false⟩),
 (88,⟨[some .i64],[some Yt],false,false,[(⟨some [],[],some [0,2,3,4],false⟩,⟨some [],[],some [2,3],false⟩),(⟨some [5],[(5,22,(.sl .u8))],some [0,2,3,4,5,6],false⟩,⟨some [5],[(5,22,(.sl .u8))],some [0,2,3,4,5],false⟩)],[(11,⟨some [5],[(5,22,(.sl .u8))],none,false⟩)],⟨some [999999],[],none,false⟩,false⟩),
 (89,⟨[some Yt],[some Yt],false,false,[(⟨some [],[],some [2,3,4],false⟩,⟨some [],[],some [2,3],false⟩),(⟨some [],[],some [2,3,4,5],false⟩,⟨some [],[],some [2,3,4],false⟩)],[(1,N0),(8,N0)],⟨some [999999],[],none,false⟩,false⟩),
 (90,⟨[some Ef,some .i64,some .i64,some .i64,some (.sl .u8)],[some Ef],false,false,[],[(1,N0),(3,N0),(7,N0)],N1,false⟩),
 (91,⟨[some Ef],[some Ef],false,false,[],[(3,N0)],N1,false⟩),
 (92,⟨[some .i64],[none],true,false,[],[],⟨none,[(2,5,.u8)],none,false⟩,false⟩),
 (93,⟨[some (.sl .u8),some (.sl .u8)],[some (.sl .u8)],false,false,[],[(2,N0),(3,⟨some [],[],some [1,2],true⟩),(4,N0),(5,N0)],N1,false⟩),
 (94,⟨[some .i64],[some ZZ,some yB,some .i64],false,false,[],[],N1,false⟩),
 (95,⟨[some ZZ],[some .i64],false,false,[],[(11,N0),(13,⟨some [],[],some [],true⟩)],N1,false⟩),
 (96,⟨[some .i64,some .i64,some yB],[some (.sl .u8)],false,false,[],[(2,N0),(3,N0)],N1,false⟩),
 (97,⟨[some (.sl nO)],[none],true,false,[],[],⟨none,[(2,94,nO)],none,false⟩,false⟩),
 (98,⟨[some (.sl .u8),some (.sl .u8)],[none],true,false,[],[(2,N0)],⟨none,[(4,5,.u8)],none,false⟩,false⟩),
 (99,⟨[some .i64,some (.sl (.sl .u8))],[some (.sl .u8)],false,false,[],[(1,N0)],N1,false⟩),
 (100,⟨[none,some .i64],[some .bool],false,false,[],[(3,⟨some [],[],some [0],true⟩)],N1,false⟩),
 (101,⟨[none],[some .i64],false,false,[],[],N1,false⟩),
 (57,⟨[some .i64],[some .i64],false,false,[],[],N1,false⟩),
 (102,⟨[some (.sl .u8),some .i64,some .i64],[none],true,false,[(⟨some [7],[(7,5,.u8)],some [2,7,8],false⟩,⟨some [7],[(7,5,.u8)],some [7],false⟩)],[],⟨none,[(6,5,.u8)],none,false⟩,false⟩),
 (103,⟨[some Yt,some .i64],[some .bool],false,false,[],[(1,N0)],N1,false⟩),
 (104,⟨[some Ef,some nO],[some Ef,some .i64,some .i64],false,false,[],[(1,N0),(2,⟨some [7],[(7,190,(.pair (.sl .u8) .i64))],none,false⟩),(8,⟨some [7],[(7,190,(.pair (.sl .u8) .i64))],some [2,3,4,7,8],true⟩)],N1,false⟩),
 (105,⟨[some (.sl .u8),some .i64,some .i64,some (.sl .u8)],[some (.sl .u8)],false,false,[(⟨some [9],[(9,5,.u8)],some [9,40,41,42],false⟩,⟨some [],[],some [9],false⟩)],[(1,N0),(3,N0),(4,⟨some [9],[(9,5,.u8)],none,false⟩)],N1,false⟩),
 (106,⟨[some .i64,some (.sl .u8),some (.sl .u8)],[some (.sl .u8),some .bool],false,false,[(⟨some [9],[(9,5,.u8)],some [0,2,8,9,10],false⟩,⟨some [],[],some [0,9],false⟩)],[(3,N0),(8,⟨some [9],[(9,5,.u8)],none,false⟩),(9,N0)],N1,false⟩),
 (107,⟨[some (.sl .u8),some .i64,some (.sl (.sl .u8))],[some (.sl .u8)],false,false,[(⟨some [],[],some [1,2,7,8],false⟩,⟨some [],[],some [7],false⟩)],[(3,N0),(8,N0),(9,N0),(10,⟨some [],[],some [1,2,7,8],true⟩)],N1,false⟩),
 (108,⟨[none,some .i64],[some (.sl .u8)],false,false,[],[(3,⟨some [],[],some [0,1],true⟩)],N1,false⟩),
 (109,⟨[],[some (.sl .u8)],false,false,[],[],N1,false⟩),
 (111,⟨[some ZZ],[none],true,false,[],[(1,N0)],⟨none,[(2,5,.u8)],none,false⟩,false⟩),
 (110,⟨[some .i64,some (.sl (.sl .u8))],[some (.sl .u8)],false,false,[],[(1,N0)],N1,false⟩),
 (59,⟨[some Ef,some .i64],[some .i64],false,false,[(⟨some [],[],some [1,2,5],false⟩,⟨some [],[],some [4],false⟩)],[],N1,false⟩),
 (112,⟨[some Yt,some .i64],[some .bool],false,false,[],[],N1,false⟩),
 (113,⟨[some (.sl .u8),some .i64,some .i64],[none],true,false,[(⟨some [7],[(7,5,.u8)],some [2,7,8],false⟩,⟨some [7],[(7,5,.u8)],some [7],false⟩)],[],⟨none,[(6,5,.u8)],none,false⟩,false⟩),
 (114,⟨[some (.sl .u8),some (.sl .u8)],[none],true,false,[],[(3,⟨some [],[],some [0,1],true⟩)],⟨none,[(4,5,.u8)],none,false⟩,false⟩),
 (115,⟨[some Ef,some nO],[some Ef,some .i64,some .i64],false,false,[(⟨some [],[],some [2,3,4,7],false⟩,⟨some [],[],some [2,3,4,5,6],false⟩)],[(5,N0)],N1,false⟩),
 (116,⟨[some (.sl .u8),some .i64,some .i64,some (.sl .u8)],[none],true,false,[(⟨some [9],[(9,5,.u8)],some [9,10,11],false⟩,⟨some [9],[(9,5,.u8)],some [9],false⟩)],[(3,N0),(4,⟨some [9],[(9,5,.u8)],none,false⟩)],⟨none,[(8,5,.u8)],none,false⟩,false⟩),
 (153,⟨[some .i64],[none],true,false,[],[],⟨none,[(2,5,.u8)],none,false⟩,false⟩),
 (154,⟨[some (.sl .u8),some (.sl .u8)],[some (.sl .u8)],false,false,[(⟨some [5,6],[(5,5,.u8),(6,5,.u8)],some [0,1,5,6,7],false⟩,⟨some [5,6],[(5,5,.u8),(6,5,.u8)],some [1,5,6],false⟩)],[(2,N0),(3,⟨some [],[],some [0,1],true⟩),(10,⟨some [5,6],[(5,5,.u8),(6,5,.u8)],some [0,1,5,6,7,8],true⟩),(11,⟨some [5,6],[(5,5,.u8),(6,5,.u8)],none,false⟩)],N1,false⟩),
 (155,⟨[some .i64,some .i64],[some (.sl .u8)],false,false,[],[(2,N0),(3,N0)],N1,false⟩),
 (156,⟨[some Yt],[none],true,false,[(⟨some [2],[],some [1,2,3,4],false⟩,⟨some [2],[],some [2,3],false⟩),(⟨some [2,5],[(5,22,(.sl .u8))],some [1,2,3,4,5,6],false⟩,⟨some [2,5],[(5,22,(.sl .u8))],some [1,2,3,4,5],false⟩)],[(9,⟨some [2,5],[(5,22,(.sl .u8))],none,false⟩)],N1,false⟩),
 (157,⟨[some Ef,some .i64],[some Ef,some .i64],false,false,[],[(12,⟨some [],[],some [2,4],true⟩)],N1,false⟩),
 (23,⟨[some Ef,some .i64,some .i64,some .i64,some (.sl .u8)],[some MW],false,false,[],[(2,N0),(3,N0),(17,N0),(29,N0),(31,N0),(32,N0),(36,N0),(37,N0),(39,N0),(42,N0),(45,N0),(48,N0),(58,N0),(60,N0),(63,N0),(65,N0),(69,N0),(71,N0),(80,N0),(82,N0),(89,⟨some [],[],some [3,4,5,10,11,12],true⟩),(90,N0),(91,⟨some [],[],some [10,11],true⟩)],N1,false⟩),
 (158,⟨[some Ef,some .i64,some MW],[some Ef,some V9],false,false,[],[(1,N0),(3,N0),(5,N0),(7,N0),(8,N0),(9,N0),(11,N0),(13,N0),(14,⟨some [],[],some [1,3,5,6,7],true⟩),(16,N0),(17,⟨some [],[],some [6,7,11,12],true⟩)],N1,false⟩),
 (159,⟨[some .i64,some (.sl .u8)],[some (.sl .u8)],false,false,[(⟨some [],[],some [5,6],false⟩,⟨some [],[],some [5],false⟩),(⟨some [],[],some [7,8],false⟩,⟨some [],[],some [7],false⟩)],[(4,N0),(7,N0),(8,N0),(11,N0),(14,N0),(15,N0)],N1,false⟩),
 (160,⟨[some .u8],[none],true,false,[(⟨some [4],[(4,5,.u8)],some [0,4,10],false⟩,⟨some [4],[(4,5,.u8)],some [4],false⟩)],[],⟨none,[(3,5,.u8)],none,false⟩,false⟩),
 (161,⟨[some .i64],[some .i64],false,false,[],[],N1,false⟩),
 (162,⟨[some (.sl .u8),some .i64],[some (.sl .u8)],false,false,[],[(1,N0),(3,N0)],N1,false⟩),
 (163,⟨[some Yt],[some .i64],false,false,[(⟨some [],[],some [1,3,7,8],false⟩,⟨some [],[],some [3],false⟩)],[(7,⟨some [],[],some [1,3,7,8],true⟩)],N1,false⟩),
 (164,⟨[some (.sl (.pair (.sl .u8) .i64))],[none],true,false,[],[],⟨none,[(2,190,(.pair (.sl .u8) .i64))],none,false⟩,false⟩),
 (166,⟨[some (.pair (.sl .u8) .i64)],[some .bool],false,false,[],[],N1,false⟩),
 (165,⟨[some (.sl (.pair (.sl .u8) .i64)),none],[some .i64],false,true,[(⟨some [],[],some [0,1,7,8],false⟩,⟨some [],[],some [4],false⟩)],[(4,N0)],N1,false⟩),
 (167,⟨[some .i64],[some .bool],false,false,[],[],N1,false⟩),
 (169,⟨[some (.sl .u8),some .i64],[some (.sl .u8)],false,false,[],[(1,N0)],N1,false⟩),
 (168,⟨[some (.sl .u8),some .i64,some (.sl .u8)],[some (.sl .u8)],false,false,[],[(1,N0),(3,N0),(5,N0)],N1,false⟩),
 (171,⟨[some (.sl .u8),some .i64],[some (.sl (.sl .u8))],false,false,[(⟨some [6],[(6,22,(.sl .u8))],some [5,6,13,14],false⟩,⟨some [],[],some [6],false⟩)],[(1,N0),(6,⟨some [6],[(6,22,(.sl .u8))],none,false⟩)],N1,false⟩),
 (170,⟨[some .i64,some (.sl (.sl .u8))],[some (.sl (.sl .u8))],false,false,[(⟨some [6],[(6,22,(.sl .u8))],some [0,6,27,28,29],false⟩,⟨some [],[],some [6],false⟩)],[(1,N0),(5,⟨some [6],[(6,22,(.sl .u8))],none,false⟩)],N1,false⟩),
 (172,⟨[some (.sl .u8)],[some (.sl .i64)],false,false,[(⟨some [4],[(4,3,.i64)],some [3,4,5,6],false⟩,⟨some [4],[(4,3,.i64)],some [4,5],false⟩)],[(1,N0)],N1,false⟩),
 (173,⟨[some .i64,some .i64,some .i64,some .i64,some (.sl .u8)],[some (.sl .u8)],false,false,[(⟨some [],[],some [0,1,3,4,11],false⟩,⟨some [],[],some [4],false⟩)],[(4,N0)],N1,false⟩),
 (174,⟨[some .i64,some (.sl .u8)],[some (.sl .u8)],false,false,[],[(1,N0)],N1,false⟩),
 (136,⟨[some (.sl .u8)],[none],true,false,[],[],⟨none,[(2,5,.u8)],none,false⟩,false⟩),
 (175,⟨[some .i64,some .i64,some (.sl .u8),some (.sl .u8)],[some (.sl .u8)],false,false,[],[(1,N0)],N1,false⟩),
 (122,⟨[some .i64,some (.sl (.sl .u8))],[some (.sl .u8)],false,false,[(⟨some [5],[(5,5,.u8)],some [1,5,6],false⟩,⟨some [],[],some [5],false⟩)],[],N1,false⟩),
 (176,⟨[some (.sl .u8)],[some (.sl .u8)],false,false,[(⟨some [4],[(4,134,.u32)],some [3,4,5,6],false⟩,⟨some [],[],some [4],false⟩),(⟨some [4,7],[(4,134,.u32)],some [3,4,5,6,7,8],false⟩,⟨some [4],[(4,134,.u32)],some [3,4,5,6,7],false⟩),(⟨some [4],[(4,134,.u32)],some [3,4,5,6,7,11,12],false⟩,⟨some [4],[(4,134,.u32)],some [3,4,5,6,11],false⟩),(⟨some [4],[(4,134,.u32)],some [3,4,5,6,11,17],false⟩,⟨some [4],[(4,134,.u32)],some [3,4,5,6],false⟩)],[(1,N0),(3,⟨some [4],[(4,134,.u32)],none,false⟩),(12,⟨some [4,7],[(4,134,.u32)],none,false⟩),(13,⟨some [4,7],[(4,134,.u32)],none,false⟩),(14,⟨some [4,7],[(4,134,.u32)],none,false⟩),(10,⟨some [4,7],[(4,134,.u32)],some [3,4,5,6,7,8],true⟩),(21,⟨some [4],[(4,134,.u32)],none,false⟩),(22,⟨some [4],[(4,134,.u32)],none,false⟩),(28,N0)],N1,false⟩),
 (178,⟨[some (.sl .u8),some .i64],[some (.sl .u8)],false,false,[],[(1,N0)],N1,false⟩),
 (177,⟨[some (.sl .u8),some .i64,some (.sl .u8)],[none],true,false,[(⟨some [8],[(8,5,.u8)],some [0,1,7,8,9],false⟩,⟨some [8],[(8,5,.u8)],some [8],false⟩)],[(3,N0),(8,⟨some [8],[(8,5,.u8)],none,false⟩)],⟨none,[(6,5,.u8)],none,false⟩,false⟩),
 (180,⟨[some (.sl .u8),some .i64],[some (.sl (.sl .u8))],false,false,[(⟨some [5],[(5,22,(.sl .u8))],some [1,5,6,7],false⟩,⟨some [],[],some [5],false⟩)],[(2,⟨some [5],[(5,22,(.sl .u8))],none,false⟩),(6,⟨some [5],[(5,22,(.sl .u8))],none,false⟩)],N1,false⟩),
 (179,⟨[some .i64,some (.sl (.sl .u8))],[some (.sl (.sl .u8))],false,false,[(⟨some [5],[(5,22,(.sl .u8))],some [0,5,6,7],false⟩,⟨some [],[],some [5],false⟩)],[(1,N0),(8,⟨some [5],[(5,22,(.sl .u8))],none,false⟩),(9,⟨some [5],[(5,22,(.sl .u8))],none,false⟩)],N1,false⟩),
 (204,⟨[some .i64],[some .i64],false,false,[],[],N1,false⟩),
 (203,⟨[some .i64,some .u8],[some (.sl .u8)],false,false,[(⟨some [5],[(5,5,.u8)],some [0,1,5,6],false⟩,⟨some [],[],some [5],false⟩)],[],N1,false⟩),
 (20,⟨[some .i64,some .i64],[some .i64],false,false,[],[(6,⟨some [],[],some [5],true⟩)],N1,false⟩),
 (72,⟨[some (.sl .u8),some .i64],[some (.sl .u8)],false,false,[],[],N1,false⟩),
 (73,⟨[some .i64,some (.sl .u8)],[some (.sl (.sl .u8))],false,false,[(⟨some [5],[(5,22,(.sl .u8))],some [0,1,5,6],false⟩,⟨some [],[],some [5],false⟩)],[(10,⟨some [5],[(5,22,(.sl .u8))],some [0,1,5,6,7],true⟩),(4,⟨some [5],[(5,22,(.sl .u8))],some [0,1,5,6],true⟩)],N1,false⟩),
 (74,⟨[some Ef,some .i64,some (.sl .u8)],[some (.sl .i64),some (.sl (.sl .u8))],false,false,[],[(9,N0),(10,⟨some [],[],some [1,2,3,8,9,10,11],true⟩),(13,⟨some [],[],some [1,2,8,9,10,11,12],true⟩)],N1,false⟩),
 (75,⟨[some Ef,some .i64,some .i64],[some .i64],false,false,[(⟨some [],[],some [1,2,3,7],false⟩,⟨some [],[],some [1,6],false⟩)],[],N1,false⟩),
 (76,⟨[some Ef,some .i64,some .i64,some (.sl .u8)],[some (.sl (.sl .u8))],false,false,[],[(1,N0),(4,N0),(5,N0),(8,N0),(11,⟨some [],[],some [12,15],true⟩)],N1,false⟩),
 (77,⟨[some Ef,some .i64,some .i64],[some .i64],false,false,[(⟨some [],[],some [1,2,3,7],false⟩,⟨some [],[],some [1,6],false⟩)],[],N1,false⟩),
 (78,⟨[some Ef,some .i64,some .i64,some (.sl .u8)],[some (.sl .i64),some (.sl (.sl .u8))],false,false,[(⟨some [],[],some [1,3,4,10,11],false⟩,⟨some [],[],some [1,3,4,10],false⟩)],[(1,N0),(3,N0),(11,N0),(12,⟨some [],[],some [1,4,10,12],true⟩),(18,N0),(23,⟨some [],[],some [1,3,4,10],true⟩),(24,N0),(26,N0),(27,⟨some [],[],some [10,15],true⟩)],N1,false⟩),
 (79,⟨[some Ef,some .i64],[some .i64],false,false,[],[(5,N0),(6,N0)],N1,false⟩),
 (80,⟨[some Ef,some .i64,some (.sl .u8)],[some (.sl .i64),some (.sl (.sl .u8))],false,false,[],[(1,N0),(2,N0),(3,N0),(4,N0),(5,N0),(6,N0),(8,N0),(9,⟨some [],[],some [8,12,13,14],true⟩)],N1,false⟩),
 (81,⟨[some Ef,some .i64,some (.sl .u8)],[some (.sl .i64),some (.sl (.sl .u8))],false,false,[],[(2,N0),(6,⟨some [],[],some [1,2,8,9,10],true⟩)],N1,false⟩),
 (82,⟨[some Ef,some .i64],[some .i64],false,false,[],[],N1,false⟩),
 (83,⟨[some Ef,some .i64,some .i64,some (.sl .u8)],[some MW],false,false,[],[(1,N0),(5,⟨some [],[],some [1,2,3,4,8,9,10],true⟩),(6,N0),(10,⟨some [],[],some [1,2,3,8,9,10,11,13],true⟩),(17,N0),(20,⟨some [],[],some [8,11],true⟩)],N1,false⟩),
 (84,⟨[some Ef,some MW,some .i64,some (.sl .u8)],[some MW],false,false,[],[(2,⟨some [999999],[],none,false⟩),(9,⟨some [999999],[],none,false⟩),(10,⟨some [999999],[],none,false⟩),(12,⟨some [999999],[],none,false⟩),(13,⟨some [999999],[],none,false⟩),(18,⟨some [999999],[],none,false⟩),(19,⟨some [999999],[],some [5,8,11],true⟩)],N1,false⟩),
 (58,⟨[some MW],[some .i64],false,false,[(⟨some [],[],some [1,5],false⟩,⟨some [],[],some [1,2],false⟩),(⟨some [],[],some [1,6],false⟩,⟨some [],[],some [1,2],false⟩),(⟨some [],[],some [1,7],false⟩,⟨some [],[],some [1,2],false⟩)],[(1,N0),(4,N0),(9,N0),(14,N0),(21,N0)],N1,false⟩),
 (205,⟨[some Ef,some .i64],[some Ef,some V9],false,false,[],[],N1,false⟩),
 (206,⟨[some Ef,some MW],[some .bool],false,false,[],[(12,N0),(14,N0),(25,⟨some [],[],some [2,3,5],true⟩)],N1,false⟩),
 (207,⟨[some Ef,some .i64,some MW],[some Ef,some .i64],false,false,[],[(2,N0),(5,N0),(7,N0),(10,N0),(12,N0),(13,N0),(15,N0),(18,N0),(19,⟨some [],[],some [3,6,8,9,12],true⟩)],N1,false⟩),
 (208,⟨[some Ef,some .i64,some MW],[some Ef,some V9],false,false,[],[(3,N0),(4,N0),(6,N0),(7,N0),(9,N0),(14,N0),(22,N0),(28,N0),(30,N0),(32,N0),(34,N0),(36,N0),(38,N0),(41,N0),(43,N0),(46,⟨some [],[],some [3,5,6,7],true⟩)],N1,false⟩),
 (209,⟨[some Ef,some MW],[some Ef,some (.sl (.sl .u8))],false,false,[],[(2,N0),(6,N0),(8,N0),(10,N0),(11,⟨some [],[],some [2,4],true⟩)],N1,false⟩),
 (210,⟨[some (.sl .u8)],[some (.sl .u8)],false,false,[(⟨some [3],[(3,5,.u8)],some [0,3],false⟩,⟨some [3],[(3,5,.u8)],some [0,3],false⟩),(⟨some [3],[(3,5,.u8)],some [3,4,5],false⟩,⟨some [],[],some [3],false⟩)],[],N1,false⟩),
 (211,⟨[none,some (.sl .u8)],[],false,false,[(⟨some [4],[],some [0,1,4,14],false⟩,⟨some [],[],some [0,4],false⟩),(⟨some [],[],some [0,4,6,7,8,9,10,67],false⟩,⟨some [],[],some [0,6,7,8,9,10],false⟩)],[(5,⟨some [4],[],none,false⟩),(6,⟨some [4],[],none,false⟩),(7,⟨some [4],[],some [0,1,4,14],true⟩),(21,⟨some [],[],some [0,4,6,7,8,9,10,11,12,13,67],true⟩)],N1,false⟩),
 (212,⟨[some (.sl .u32)],[some (.sl .u8)],false,false,[(⟨some [3],[(3,5,.u8)],some [3,10,11,12],false⟩,⟨some [],[],some [3],false⟩)],[],N1,false⟩),
 (213,⟨[none,some (.sl .u8)],[],false,false,[(⟨some [4],[],some [0,1,4,17],false⟩,⟨some [],[],some [0,4],false⟩),(⟨some [],[],some [0,4,10,70],false⟩,⟨some [],[],some [0,10],false⟩),(⟨some [],[],some [0,10,152],false⟩,⟨some [],[],some [],false⟩)],[(5,⟨some [4],[],none,false⟩),(7,⟨some [4],[],none,false⟩),(8,⟨some [4],[],none,false⟩),(10,⟨some [4],[],some [0,1,4,17],true⟩),(16,N0),(17,N0)],N1,false⟩),
 (214,⟨[some (.sl (.sl .u8))],[some (.sl .u8)],false,false,[],[(1,N0),(4,N0)],N1,false⟩),
 (215,⟨[some .i64],[some .bool],false,false,[],[],N1,false⟩),
 (216,⟨[some (.sl .u8)],[some (.sl .i64)],false,false,[(⟨some [3],[(3,3,.i64)],some [3,4,12,13,14],false⟩,⟨some [3],[(3,3,.i64)],some [3,4],false⟩),(⟨some [3],[(3,3,.i64)],some [3,4,12,13,14,24,25],false⟩,⟨some [3],[(3,3,.i64)],some [3,4,12,13,14],false⟩)],[(3,⟨some [3],[(3,3,.i64)],none,false⟩)],N1,false⟩),
 (217,⟨[some .i64],[some (.sl .u8)],false,false,[],[(1,N0)],N1,false⟩),
 (221,⟨[some .i64],[some .i64],false,false,[],[],N1,false⟩),
 (219,⟨[some .i64,none,none,none],[some (.sl .u8)],false,false,[(⟨some [9],[(9,5,.u8)],some [0,1,2,3,9,13],false⟩,⟨some [],[],some [9],false⟩),(⟨some [9],[(9,5,.u8)],some [0,1,2,3,9,10,11,12,13],false⟩,⟨some [9],[(9,5,.u8)],some [0,1,2,3,9,11,13],false⟩)],[(5,⟨some [9],[(9,5,.u8)],none,false⟩),(6,⟨some [9],[(9,5,.u8)],none,false⟩),(7,⟨some [9],[(9,5,.u8)],none,false⟩),(9,⟨some [9],[(9,5,.u8)],none,false⟩)],N1,true⟩),
 (220,⟨[some .i64],[some .i64],false,false,[],[],N1,false⟩),
 (224,⟨[some (.sl .u8),some .i64],[some (.sl .u8)],false,false,[],[(1,N0),(4,N0)],N1,false⟩),
 (222,⟨[some .i64],[some .i64],false,false,[(⟨some [],[],some [0,3],false⟩,⟨some [],[],some [2],false⟩)],[],N1,false⟩),
 (223,⟨[some (.sl (.sl .u8))],[some (.sl (.sl (.sl .u8)))],false,false,[(⟨some [3],[(3,24,(.sl (.sl .u8)))],some [3,4],false⟩,⟨some [],[],some [3],false⟩),(⟨some [3,5],[(3,24,(.sl (.sl .u8))),(5,22,(.sl .u8))],some [3,4,5,6],false⟩,⟨some [3],[(3,24,(.sl (.sl .u8)))],some [3,4,5],false⟩)],[(9,⟨some [3,5],[(3,24,(.sl (.sl .u8))),(5,22,(.sl .u8))],none,false⟩)],N1,false⟩),
 (225,⟨[],[none],false,false,[],[],N1,false⟩),
 (226,⟨[some (.sl .u8)],[some (.sl .u8)],false,false,[(⟨some [3],[(3,5,.u8)],some [0,3],false⟩,⟨some [3],[(3,5,.u8)],some [0,3],false⟩),(⟨some [3],[(3,5,.u8)],some [3,4,5],false⟩,⟨some [],[],some [3],false⟩)],[],N1,false⟩),
 (227,⟨[some (.sl .u8),some .i64],[some .u32],false,false,[],[],N1,false⟩),
 (228,⟨[some .u32,some .u64],[some .u32],false,false,[],[],N1,false⟩),
 (229,⟨[some (.sl .u32)],[some (.sl .u8)],false,false,[(⟨some [3],[(3,5,.u8)],some [0,3,4],false⟩,⟨some [],[],some [3],false⟩)],[],N1,false⟩),
 (230,⟨[some (.sl .u8),some .i64,some .i64],[some (.sl .u8)],false,false,[],[(1,N0)],N1,false⟩),
 (233,⟨[some (.sl .u8),some .i64],[some (.sl .u8)],false,false,[(⟨some [5],[(5,5,.u8)],some [0,1,5,6],false⟩,⟨some [],[],some [1,5],false⟩)],[(7,⟨some [5],[(5,5,.u8)],none,false⟩),(8,N0)],N1,false⟩),
 (231,⟨[some .i64],[some .bool],false,false,[],[],N1,false⟩),
 (232,⟨[some .i64,some (.sl (.sl .u8))],[some (.sl (.sl .u8))],false,false,[(⟨some [5],[(5,22,(.sl .u8))],some [0,1,5,6],false⟩,⟨some [],[],some [5],false⟩)],[(5,⟨some [5],[(5,22,(.sl .u8))],none,false⟩)],N1,false⟩),
 (144,⟨[some Ef,some .i64,some (.sl .u8)],[some (.sl .u8)],false,false,[],[(5,N0),(7,N0),(10,⟨some [],[],some [],true⟩)],N1,false⟩),
 (123,⟨[some (.sl .u8),some ZZ,some (.sl .u8),some (.sl .u8)],[some ZZ,some yB,some .i64],false,false,[],[(2,N0),(3,N0),(9,⟨some [],[],some [0,2,3,8,9,11,12],true⟩),(11,N0),(12,N0)],N1,false⟩),
 (130,⟨[some yB,some ZZ,some yB],[none],true,false,[],[(1,N0),(2,N0),(3,N0)],⟨none,[(6,5,.u8)],none,false⟩,false⟩),
 (145,⟨[some Ef,some .i64],[some tyI,some .i64],false,false,[],[(1,N0)],N1,false⟩),
 (146,⟨[some (.sl .u8),some .i64],[none],true,false,[],[(3,N0)],⟨none,[(4,5,.u8)],none,false⟩,false⟩),
 (147,⟨[some (.sl .u8),some (.sl .u8)],[some (.sl .u8)],false,false,[],[(1,N0)],N1,false⟩),
 (148,⟨[some Ef,some .i64],[some .i64],false,false,[(⟨some [],[],some [1,2,5],false⟩,⟨some [],[],some [4],false⟩)],[],N1,false⟩),
 (149,⟨[some Ef,some .i64],[some (.sl .u8)],false,false,[],[(1,N0),(4,N0)],N1,false⟩),
 (152,⟨[some Ef,some MW],[some (.sl (.sl .u8))],false,false,[],[(1,N0)],N1,false⟩),
 (151,⟨[some (.sl (.sl .u8)),some MW],[some (.sl .u8)],false,false,[(⟨some [5],[(5,5,.u8)],some [0,3,5,6,7],false⟩,⟨some [],[],some [3,5,6],false⟩),(⟨some [],[],some [3,5,6,8],false⟩,⟨some [],[],some [3,5,6],false⟩)],[(9,N0),(11,N0)],N1,false⟩),
 (150,⟨[some (.sl .u8),some (.sl .u8),some (.sl .u8),some (.sl .u8)],[some (.sl .u8)],false,false,[],[(1,N0)],N1,false⟩),
 (117,⟨[some .i64],[some (.pair .i64 (.pair .i64 (.pair .i64 .i64))),some .bool],false,false,[],[(1,N0)],N1,false⟩),
 (118,⟨[some .i64,some .i64],[some .bool],false,false,[],[],N1,false⟩),
 (119,⟨[some .i64],[some .bool],false,false,[],[],N1,false⟩),
 (120,⟨[some MW],[some .bool],false,false,[(⟨some [],[],some [1,3],false⟩,⟨some [],[],some [1,2],false⟩),(⟨some [],[],some [1,4],false⟩,⟨some [],[],some [1,2],false⟩)],[(11,N0)],N1,false⟩),
 (246,⟨[some Ef,some .i64],[some .bool],false,false,[],[(1,N0)],N1,false⟩),
 (247,⟨[some Ef,some .i64,some MW,some tyI],[some .bool,some .i64],false,false,[],[(4,N0),(5,N0),(7,N0),(18,N0)],N1,false⟩),
 (248,⟨[some Ef,some .i64],[some .bool],false,false,[],[(2,N0),(3,N0)],N1,false⟩),
 (249,⟨[some Ef,some .i64,some .bool],[some Ef,some .i64],false,false,[],[(4,N0),(5,N0),(6,N0),(7,⟨some [],[],some [3,6],true⟩)],N1,false⟩),
 (250,⟨[some Ef,some MW],[some .bool],false,false,[],[(1,N0),(2,N0),(5,N0),(7,N0),(9,N0),(10,N0)],N1,false⟩),
 (202,⟨[some Ef,some MW],[some (.sl (.sl .u8))],false,false,[(⟨some [5],[(5,22,(.sl .u8))],some [2,3,5,6],false⟩,⟨some [],[],some [5],false⟩)],[(5,⟨some [5],[(5,22,(.sl .u8))],none,false⟩)],N1,false⟩),
 (251,⟨[some Ef,some Ef,some .i64],[some Ef,some V9],false,false,[],[(2,N0)],N1,false⟩),
 (252,⟨[some Ef,some .i64],[some Ef,some .i64],false,false,[],[(10,⟨some [],[],some [2,4],true⟩)],N1,false⟩),
 (253,⟨[some Ef],[some Ef,some V9],false,false,[],[(4,⟨some [],[],some [1,2,3,4],true⟩)],N1,false⟩),
 (254,⟨[some Ef,some .i64,some MW],[some Ef,some V9],false,false,[],[(5,N0),(7,N0),(10,N0),(12,N0),(13,N0),(3,N0),(14,⟨some [],[],some [3,6,7,8,9,10],true⟩),(15,N0)],N1,false⟩),
 (255,⟨[some Ef,some MW],[some Ef,some V9],false,false,[],[(3,N0),(5,N0),(7,N0),(9,N0),(11,N0),(13,N0),(14,N0)],N1,false⟩),
 (256,⟨[some Ef,some MW],[some Ef,some V9],false,false,[],[(3,N0),(5,N0),(6,N0),(9,N0),(12,N0),(13,N0),(14,N0),(16,N0),(18,N0),(19,N0),(20,N0),(21,N0),(23,N0)],N1,false⟩),
 (257,⟨[some Ef,some MW],[some Ef,some V9],false,false,[],[(1,N0),(3,N0),(4,N0),(5,N0),(7,N0)],N1,false⟩),
 (258,⟨[some Ef,some MW],[some Ef,some V9],false,false,[],[(2,N0),(4,N0),(6,N0),(7,N0)],N1,false⟩),
 (259,⟨[some Ef,some MW],[some Ef,some V9],false,false,[],[(2,N0)],N1,false⟩),
 (260,⟨[some Ef],[some Ef,some V9],false,false,[],[(1,N0),(5,N0)],N1,false⟩),
 (261,⟨[some nN,some .i64],[some nN],false,false,[],[],N1,false⟩),
 (262,⟨[some nN,some .i64,some .i64,some .i64],[some nN,some .i64],false,false,[],[],N1,false⟩),
 (263,⟨[some Ef,some MW],[some Ef,some V9],false,false,[],[(1,N0),(6,N0),(9,N0),(12,N0),(13,N0),(14,N0),(16,N0),(18,N0),(19,N0),(23,N0),(25,N0),(27,N0),(21,N0),(28,⟨some [],[],some [2,4,5,6,7,8,9],true⟩),(29,N0)],N1,false⟩),
 (129,⟨[some Ef,some .i64],[some Ef,some (.sl .u8)],false,false,[],[(1,N0),(3,N0)],N1,false⟩),
 (198,⟨[some Ef,some .i64,some tyI],[some Ef],false,false,[],[],N1,false⟩),
 (135,⟨[some Ef,some .i64],[some Ef,some .i64],false,false,[],[(1,N0),(4,N0)],N1,false⟩),
 (264,⟨[some (.sl .u8),some .i64],[some .u32],false,false,[],[],N1,false⟩),
 (265,⟨[some .u32,some .i64],[some .u32],false,false,[],[],N1,false⟩),
 (218,⟨[some (.sl .u8),some .i64,some .i64],[some (.sl .u8)],false,false,[],[(1,N0)],N1,false⟩),
 (266,⟨[some .i64,some .i64,some .i64,some (.sl .u8)],[some (.sl .u8)],false,false,[],[(1,N0)],N1,false⟩),
 (268,⟨[some .i64],[some (.sl .u8)],false,false,[],[(1,N0)],N1,false⟩),
 (270,⟨[some .i64],[some .i64],false,false,[],[],N1,false⟩),
 (271,⟨[some .i64],[some .i64],false,false,[],[],N1,false⟩),
 (269,⟨[some .i64,some (.sl .u8)],[some (.sl .u8)],false,false,[],[(1,N0)],N1,false⟩),
 (267,⟨[some .i64,some .i64,some (.sl .u8),some (.sl .u8)],[some (.sl .u8)],false,false,[],[(1,N0)],N1,false⟩),
 (200,⟨[some (.sl tyF)],[some (.sl .u8)],false,false,[(⟨some [],[],some [0,3,4],false⟩,⟨some [],[],some [2,3],false⟩)],[(1,N0),(5,N0)],N1,false⟩),
 (183,⟨[some yB,some .i64,some .i64],[some (.sl .u8)],false,false,[],[(2,N0),(3,N0)],N1,false⟩),
 (187,⟨[some yB,some (.sl .u8)],[some (.sl .u8)],false,false,[],[(1,N0)],N1,false⟩),
 (186,⟨[some (.sl .u8),some (.sl .u8),some (.sl .u8),some (.sl .u8)],[none],true,false,[],[(3,N0),(4,N0)],⟨none,[(8,5,.u8)],none,false⟩,false⟩),
 (197,⟨[some Ef,some .i64],[some .i64],false,false,[],[],N1,false⟩),
 (201,⟨[some (.sl (.sl .u8))],[some (.sl .u8)],false,false,[(⟨some [],[],some [3,4],false⟩,⟨some [],[],some [3],false⟩)],[(1,N0),(7,N0),(8,N0)],N1,false⟩),
 (181,⟨[],[none],false,false,[],[],N1,false⟩),
 (182,⟨[some MW],[some (.sl .u8)],false,false,[(⟨some [3],[(3,5,.u8)],some [1,3,4],false⟩,⟨some [3],[(3,5,.u8)],some [1,3],false⟩),(⟨some [3],[(3,5,.u8)],some [1,3,5],false⟩,⟨some [3],[(3,5,.u8)],some [1,3],false⟩),(⟨some [3],[(3,5,.u8)],some [1,3,6],false⟩,⟨some [3],[(3,5,.u8)],some [1,3],false⟩),(⟨some [3],[(3,5,.u8)],some [1,3,7],false⟩,⟨some [3],[(3,5,.u8)],some [3],false⟩)],[(5,N0),(9,N0),(13,N0),(18,N0)],N1,false⟩),
 (278,⟨[some .i64],[some .bool],false,false,[],[],N1,false⟩),
 (277,⟨[some .bool,some .i64,some .i64],[some .i64],false,false,[],[],N1,false⟩),
 (279,⟨[some Ef,some .i64],[some (.sl .u8)],false,false,[],[(1,N0),(4,N0)],N1,false⟩),
 (280,⟨[some nN,some .i64],[some .bool],false,false,[],[],N1,false⟩),
 (281,⟨[some Ef,some .i64],[some .bool],false,false,[],[(1,N0),(4,N0)],N1,false⟩),
 (282,⟨[some nN,some .i64],[some .bool],false,false,[],[(1,N0)],N1,false⟩),
 (283,⟨[some nN,some .i64],[some nN],false,false,[],[],N1,false⟩),
 (284,⟨[some nN,some .i64],[some nN],false,false,[],[(1,N0)],N1,false⟩),
 (245,⟨[some Ef,some .i64],[some (.sl .u8)],false,false,[],[(1,N0),(3,N0),(4,N0),(6,N0),(7,N0)],N1,false⟩),
 (285,⟨[some Yt,some .i64,some .i64],[some (.sl .u8),some .i64],false,false,[],[(3,N0),(5,N0)],N1,false⟩),
 (286,⟨[some Yt,some .i64,some .i64,some (.sl (.sl .u8))],[some Yt,some .i64],false,false,[(⟨some [],[],some [2,3,4,8,10],false⟩,⟨some [],[],some [2,3,4,8,9],false⟩),(⟨some [],[],some [2,3,4,8,11],false⟩,⟨some [],[],some [2,3,4,8,9],false⟩),(⟨some [],[],some [2,3,4,8,12,13],false⟩,⟨some [],[],some [8,12],false⟩)],[(3,N0),(8,N0),(13,N0),(15,N0),(19,N0),(20,N0),(18,⟨some [],[],some [2,3,4,8,12,13],true⟩)],⟨some [999999],[],none,false⟩,false⟩),
 (287,⟨[some Yt,some (.sl .u8)],[some (.sl (.sl .u8))],false,false,[(⟨some [5],[(5,22,(.sl .u8))],some [1,2,5,6],false⟩,⟨some [],[],some [5],false⟩)],[(5,⟨some [5],[(5,22,(.sl .u8))],none,false⟩),(6,⟨some [5],[(5,22,(.sl .u8))],none,false⟩),(4,⟨some [5],[(5,22,(.sl .u8))],some [1,2,5,6],true⟩)],N1,false⟩),
 (288,⟨[some Yt,some .i64,some .i64,some (.sl .u8)],[some Yt,some .i64],false,false,[],[(3,N0)],N1,false⟩),
 (289,⟨[some Yt,some .i64,some .i64],[some Yt,some .i64],false,false,[(⟨some [],[],some [2,3,6,9,10],false⟩,⟨some [],[],some [6,9],false⟩)],[(3,N0),(6,N0),(10,N0),(11,N0),(9,⟨some [],[],some [2,3,6,9,10],true⟩)],⟨some [999999],[],none,false⟩,false⟩),
 (60,⟨[some Ef,some MW],[some Ef,some V9],false,false,[],[(1,N0),(2,N0),(3,N0),(5,N0),(6,N0),(8,N0),(9,N0),(10,N0)],N1,false⟩),
 (62,⟨[some Ef,some MW],[some Ef,some V9],false,false,[],[(1,N0),(3,N0),(4,N0),(5,N0),(7,N0),(8,N0)],N1,false⟩),
 (64,⟨[some Ef,some MW],[some Ef,some V9],false,false,[],[(1,N0),(3,N0),(4,N0),(6,N0),(7,N0),(9,N0),(10,N0),(12,N0),(13,N0),(14,N0)],N1,false⟩),
 (66,⟨[some Ef,some MW],[some Ef,some V9],false,false,[],[(1,N0),(3,N0),(4,N0),(6,N0)],N1,false⟩),
 (67,⟨[some Ef,some MW],[some Ef,some V9],false,false,[],[(1,N0),(3,N0),(4,N0)],N1,false⟩),
 (69,⟨[some Ef,some MW],[some Ef,some V9],false,false,[],[(1,N0),(3,N0),(5,N0),(7,N0),(8,N0),(10,N0)],N1,false⟩),
 (290,⟨[some Ef,some .i64],[some Ef,some .i64,some .i64],false,false,[(⟨some [],[],some [1,2,4,7],false⟩,⟨some [],[],some [4,5,6],false⟩)],[(7,N0),(8,N0)],N1,false⟩),
 (291,⟨[some Ef,some MW],[some Ef,some V9],false,false,[],[(4,N0),(9,N0),(10,N0),(11,N0),(14,⟨some [],[],some [2,3,4,5,6],true⟩),(15,N0)],N1,false⟩),
 (292,⟨[some Ef,some .i64,some (.sl .u8),some (.sl .u8),some .i64],[some Ef,some .i64],false,false,[],[(1,N0),(7,N0),(14,⟨some [],[],some [5,10,12,13,15],true⟩),(15,N0)],N1,false⟩),
 (293,⟨[some Ef,some .i64,some ZZ,some (.sl .u8),some (.sl .u8)],[some Ef,some .i64],false,false,[],[(1,N0),(4,N0),(13,N0),(16,⟨some [],[],some [3,5,7,10,12,14],true⟩),(17,N0)],N1,false⟩),
 (294,⟨[some .i64,some .i64,some .i64,some .i64,some (.sl .u8),some (.sl .u8)],[some lT,some .i64],false,false,[],[(1,N0)],N1,false⟩),
 (295,⟨[some (.sl .i64),some .i64],[some (.sl .i64)],false,false,[(⟨some [5],[(5,3,.i64)],some [0,1,5,6],false⟩,⟨some [],[],some [5],false⟩)],[(4,⟨some [5],[(5,3,.i64)],some [0,1,5,6],true⟩)],N1,false⟩),
 (296,⟨[some (.sl .i64),some .i64],[some (.sl .i64)],false,false,[],[(1,N0)],N1,false⟩),
 (297,⟨[some (.sl .i64),some .i64],[some .bool],false,false,[(⟨some [],[],some [0,1,5],false⟩,⟨some [],[],some [4],false⟩)],[],N1,false⟩),
 (298,⟨[some lT,some .i64,some .i64],[some (.sl .u8),some .i64],false,false,[],[(3,N0),(5,N0)],N1,false⟩),
 (299,⟨[some lT,some .i64,some (.sl .u8)],[some lT,some .i64],false,false,[],[(3,N0),(5,N0)],N1,false⟩),
 (300,⟨[some lT,some .i64],[some lT,some .i64,some .i64],false,false,[],[(5,N0),(6,⟨some [],[],some [1,2,4,7],true⟩),(9,N0)],N1,false⟩),
 (301,⟨[some lT,some (.sl .u8)],[some lT,some .i64],false,false,[(⟨some [6],[(6,5,.u8)],some [1,2,4,6,7],false⟩,⟨some [],[],some [2,4,6],false⟩)],[(5,N0)],N1,false⟩),
 (302,⟨[some lT,some (.sl .u8)],[some lT,some .i64],false,false,[],[(5,N0)],N1,false⟩),
 (243,⟨[],[some (.sl .u8)],false,false,[],[],N1,false⟩),
 (244,⟨[some (.sl .u8),some tyF],[some (.sl .u8)],false,false,[],[(1,N0),(3,N0)],N1,false⟩),
 (236,⟨[some (.sl .u8),some (.sl .u8),some (.sl .u8)],[some (.sl .u8)],false,false,[(⟨some [8],[(8,5,.u8)],some [2,7,8,9],false⟩,⟨some [],[],some [8],false⟩)],[(1,N0)],N1,false⟩),
 (237,⟨[some (.sl .u8),some (.sl .u8),some (.sl .u8),some (.sl .u8)],[some (.sl .u8)],false,false,[],[(1,N0),(2,N0)],N1,false⟩),
 (307,⟨[some nN,some .i64],[some nN],false,false,[],[(11,⟨some [],[],some [2,4],true⟩)],N1,false⟩),
 (275,⟨[some lT],[some (.sl .u8)],false,false,[],[(1,N0)],N1,false⟩),
 (276,⟨[some .i64],[some (.sl .u8)],false,false,[],[(3,N0)],N1,false⟩),
 (308,⟨[some .i64,some .bool],[some .i64],false,false,[],[],N1,false⟩),
 (309,⟨[some .i64,some (.sl .u8)],[some (.sl .u8)],false,false,[],[(3,N0),(5,N0)],N1,false⟩),
 (121,⟨[some MW],[some ZZ],false,false,[],[],N1,false⟩),
 (124,⟨[some Ef],[some .i64],false,false,[(⟨some [],[],some [1,3],false⟩,⟨some [],[],some [2],false⟩)],[],N1,false⟩),
 (125,⟨[some Ef,some .i64,some nO],[some Ef],false,false,[],[],N1,false⟩),
 (133,⟨[some yB,some ZZ,some (.sl .u8)],[some yB,some .i64],false,false,[],[(1,N0),(4,N0),(6,N0),(7,N0),(8,N0),(9,N0),(12,N0)],N1,false⟩),
 (310,⟨[some Ef,some .i64,some tyF],[some Ef,some .i64],false,false,[(⟨some [],[],some [3,5,6,8,10,11,12,13,14],false⟩,⟨some [],[],some [3,5,6,8,10,11,12,13],false⟩)],[(1,N0),(4,N0),(12,N0),(18,⟨some [],[],some [3,5,6,8,10,12],true⟩),(21,N0),(23,N0),(32,N0),(35,⟨some [],[],some [3,5,6,8,10,12],true⟩),(37,N0),(38,N0)],N1,false⟩),
 (311,⟨[some Ef,some .i64],[some .i64],false,false,[],[(1,N0)],N1,false⟩),
 (273,⟨[some tyF],[some .i64],false,false,[],[(5,N0),(13,N0),(18,N0),(21,N0),(22,⟨some [],[],some [3],true⟩)],N1,false⟩),
 (312,⟨[some .i64,some .i64],[some .bool],false,false,[],[(9,⟨some [],[],some [],true⟩)],N1,false⟩),
 (313,⟨[some .i64,some .i64,some .i64],[some .bool],false,false,[],[],N1,false⟩),
 (314,⟨[some lT],[some .i64],false,false,[],[(1,N0)],N1,false⟩),
 (274,⟨[some (.sl .u8),some tyF],[some (.sl .u8)],false,false,[],[(4,⟨some [5],[(5,22,(.sl .u8))],none,false⟩),(11,⟨some [5],[(5,22,(.sl .u8))],none,false⟩),(20,⟨some [],[],some [5],true⟩)],N1,false⟩),
 (306,⟨[some lT],[some (.sl .u8)],false,false,[],[(4,⟨some [],[],some [1,3],true⟩)],N1,false⟩),
 (315,⟨[some (.sl .u8)],[some (.sl .u8)],false,false,[(⟨some [],[],some [3,4,5],false⟩,⟨some [],[],some [3],false⟩),(⟨some [6],[],some [3,4,5,6,7],false⟩,⟨some [],[],some [3,4,5,6],false⟩),(⟨some [],[],some [3,4,5,6,8,9,10,11,12,13],false⟩,⟨some [],[],some [3,4,5,8,9,10,11,12],false⟩)],[(2,N0),(11,⟨some [6],[],none,false⟩),(12,⟨some [6],[],none,false⟩),(9,⟨some [6],[],some [3,4,5,6,7],true⟩),(24,⟨some [],[],some [3,4,5,6,8,9,10,11,12,13,14,15],true⟩),(25,N0),(27,N0)],N1,false⟩),
 (194,⟨[some (.sl .u8),some (.sl .u8),some (.sl .u8)],[some (.sl .u8),some .i64],false,false,[],[(1,N0),(2,N0),(3,N0),(4,N0),(5,N0),(8,N0),(10,N0)],N1,false⟩),
 (316,⟨[some tyF],[some .i64],false,false,[],[(4,N0),(5,⟨some [],[],some [1],true⟩)],N1,false⟩),
 (317,⟨[some Ef,some tyI,some tyF],[some tyI,some tyF,some .i64],false,false,[],[(5,N0),(8,N0),(15,⟨some [],[],some [4,5,6,7],true⟩)],N1,false⟩),
 (318,⟨[some Ef,some tyF],[some .i64],false,false,[(⟨some [],[],some [2,3,5],false⟩,⟨some [],[],some [4],false⟩)],[(5,N0),(8,N0),(10,N0)],N1,false⟩),
 (319,⟨[some .i64,some .i64,some .i64],[some .bool],false,false,[],[],N1,false⟩),
 (303,⟨[some (.pair .i64 .i64)],[some .bool],false,false,[],[],N1,false⟩),
 (304,⟨[some (.sl .u8),some (.sl .u8)],[some .i64],false,false,[],[],N1,false⟩),
 (305,⟨[some (.sl (.sl .u8))],[some .bool],false,false,[(⟨some [],[],some [0,3],false⟩,⟨some [],[],some [2],false⟩)],[],N1,false⟩),
 (320,⟨[some .u32,some .u64],[some .u32],false,false,[],[],N1,false⟩),
 (321,⟨[some .i64,some (.sl .u8),some (.sl .u8)],[some .bool],false,false,[],[(3,N0),(5,N0),(7,N0),(9,N0)],N1,false⟩),
 (322,⟨[some (.sl .u8),some (.sl .u8)],[some .bool],false,false,[(⟨some [],[],some [5,6,7],false⟩,⟨some [],[],some [4],false⟩)],[(1,N0)],N1,false⟩),
 (323,⟨[some (.sl .u8)],[some (.sl .u8)],false,false,[(⟨some [],[],some [0,3],false⟩,⟨some [],[],some [0,3],false⟩)],[],N1,false⟩)]
open Go.Proofs.Tryz in
noncomputable def CT0:CT:=[(3,f3),(6,f6),(7,f7),(10,f10),(9,f9),(8,f8),(11,f11),(12,f12),(13,f13),(14,f14),(15,f15),(16,f16),(17,f17),(24,f24),(25,f25),(27,f27),(26,f26),(28,f28),(29,f29),(30,f30),(31,f31),(32,f32),(33,f33),(34,f34),(35,f35),(36,f36),(37,f37),(38,f38),(39,f39),(40,f40),(41,f41),(42,f42),(43,f43),(44,f44),(45,f45),(46,f46),(47,f47),(48,f48),(49,f49),(50,f50),(51,f51),(52,f52),(53,f53),(54,f54),(55,f55),(56,f56),(85,f85),(86,f86),(87,f87),(88,f88),(89,f89),(90,f90),(91,f91),(92,f92),(93,f93),(94,f94),(95,f95),(96,f96),(97,f97),(98,f98),(99,f99),(100,f100),(101,f101),(57,f57),(102,f102),(103,f103),(104,f104),(105,f105),(106,f106),(107,f107),(108,f108),(109,f109),(111,f111),(110,f110),(59,f59),(112,f112),(113,f113),(114,f114),(115,f115),(116,f116),(153,f153),(154,f154),(155,f155),(156,f156),(157,f157),(23,f23),(158,f158),(159,f159),(160,f160),(161,f161),(162,f162),(163,f163),(164,f164),(166,f166),(165,f165),(167,f167),(169,f169),(168,f168),(171,f171),(170,f170),(172,f172),(173,f173),(174,f174),(136,f136),(175,f175),(122,f122),(176,f176),(178,f178),(177,f177),(180,f180),(179,f179),(204,f204),(203,f203),(20,f20),(72,f72),(73,f73),(74,f74),(75,f75),(76,f76),(77,f77),(78,f78),(79,f79),(80,f80),(81,f81),(82,f82),(83,f83),(84,f84),(58,f58),(205,f205),(206,f206),(207,f207),(208,f208),(209,f209),(210,f210),(211,f211),(212,f212),(213,f213),(214,f214),(215,f215),(216,f216),(217,f217),(221,f221),(219,f219),(220,f220),(224,f224),(222,f222),(223,f223),(225,f225),(226,f226),(227,f227),(228,f228),(229,f229),(230,f230),(233,f233),(231,f231),(232,f232),(144,f144),(123,f123),(130,f130),(145,f145),(146,f146),(147,f147),(148,f148),(149,f149),(152,f152),(151,f151),(150,f150),(117,f117),(118,f118),(119,f119),(120,f120),(246,f246),(247,f247),(248,f248),(249,f249),(250,f250),(202,f202),(251,f251),(252,f252),(253,f253),(254,f254),(255,f255),(256,f256),(257,f257),(258,f258),(259,f259),(260,f260),(261,f261),(262,f262),(263,f263),(129,f129),(198,f198),(135,f135),(264,f264),(265,f265),(218,f218),(266,f266),(268,f268),(270,f270),(271,f271),(269,f269),(267,f267),(200,f200),(183,f183),(187,f187),(186,f186),(197,f197),(201,f201),(181,f181),(182,f182),(278,f278),(277,f277),(279,f279),(280,f280),(281,f281),(282,f282),(283,f283),(284,f284),(245,f245),(285,f285),(286,f286),(287,f287),(288,f288),(289,f289),(60,f60),(62,f62),(64,f64),(66,f66),(67,f67),(69,f69),(290,f290),(291,f291),(292,f292),(293,f293),(294,f294),(295,f295),(296,f296),(297,f297),(298,f298),(299,f299),(300,f300),(301,f301),(302,f302),(243,f243),(244,f244),(236,f236),(237,f237),(307,f307),(275,f275),(276,f276),(308,f308),(309,f309),(121,f121),(124,f124),(125,f125),(133,f133),(310,f310),(311,f311),(273,f273),(312,f312),(313,f313),(314,f314),(274,f274),(306,f306),(315,f315),(194,f194),(316,f316),(317,f317),(318,f318),(319,f319),(303,f303),(304,f304),(305,f305),(320,f320),(321,f321),(322,f322),(323,f323)]
theorem ct0:CTok Tryz.prog CT0:=by unfold CT0;repeat' first|exact .nil|refine .cons zas ?_
theorem ft0:bM Tryz.prog FT0:=A0Q ct0 zas
theorem tt0:∀ t i,TE t TT0=some i->TOK Tryz.prog t i:=A04 zas
end Go.Proofs.YtnhgnfdbdflhcaaGreatDoor
namespace Go.Proofs.YtnhgnfdbdflhcaaGreatDoor
open Go Go.Ax Go.Eng Go.RowKit
section
attribute [local irreducible] Cj Dt D9 DT DK BH Du Ey Fh FD Et D7 CV Df DX and' Dk DU CG Ba Bl CJ CS BK BM BB BG Dv G7 Dw EM Dl Bh CO Bz C9 Bo BD Bi BO Be BZ Dx Bf DL Bd BI D6 Dy fits Dz Dn AZ Ap BL
theorem tC{P:Program}{I:World->Prop}{f:FuncId}{t:Ty}{l:List (El t)}{s:AV}{H:List (Option Rs)}(h1:l=[]->bJ P I f [.nil] [] s H)(h2:bJ P I f [.sn t l] [] s H):bJ P I f [.sl t l] [] s H:=by
 intro ν O w args hG hR hP
 simp only[Ad,Rep] at hR
 obtain⟨u,_,rfl,hu,rfl⟩:=hR
 obtain⟨cs,hc,a,cap,rfl,h3,h4,h5,h6,h7⟩:=hu w (Stp.refl _ _)
 cases a with
 | none =>
  obtain⟨e1,e2⟩:=h6 rfl
  exact h1 (List.length_eq_zero_iff.1 e1) ν O w _ hG (by simp only[Ad,Rep];exact⟨_,_,rfl,by rw[e1,e2],rfl⟩) hP
 | some p=>exact h2 ν O w _ hG (by simp only[Ad,Rep];exact⟨_,_,rfl,⟨⟨p,_,_,rfl⟩,hu⟩,rfl⟩) hP
def KT(w:World):Prop:=∀ j,j<64->w.cell? ⟨0,0+j,none⟩=some (FP (JB.getD j 0))
theorem KT.ext{w w':World}(h:KT w)(he:Ext w w'):KT w':=fun j hj=>fE (h j hj) he
abbrev I0:World->Prop:=KT
theorem tg0:TTok Tryz.prog I0 TT0:=⟨tt0,fun t i g l h1 h2 w hw j x hx=>by
 obtain⟨rfl,rfl⟩:=A0S (g0:=0) (tab:=JB) (T:=TT0) zas _ _ _ _ h1 h2
 have hj:=(List.getElem?_eq_some_iff.1 hx).1
 have h3:=hw j hj
 rw[Nat.zero_add] at h3
 rw[h3,List.getD,hx];rfl⟩
noncomputable def E00:Env:=⟨TT0,FT0,CT0,fun _=>none⟩
theorem A2d:Y E00 (.call 97 [.nil] [])=some (.ret (.nm 0) [some (.row 94 objT [])]):=by
 rw[Ae];conv=>lhs;whnf
theorem A4M(l:List (El objT))(h:l.length<=4294967296):Y E00 (.call 97 [.sn objT l] [])=some (.ret (.nm 0) [some (.row 94 objT l)]):=by
 rw[Ae];conv=>lhs;whnf
 rw[DY zar]
 conv=>lhs;whnf
 simp only[NO];try with_reducible rfl
theorem A2e:Y E00 (.call 164 [.nil] [])=some (.ret (.nm 0) [some (.row 190 Ja [])]):=by
 rw[Ae];conv=>lhs;whnf
theorem A4N(l:List (El Ja))(h:l.length<=4294967296):Y E00 (.call 164 [.sn Ja l] [])=some (.ret (.nm 0) [some (.row 190 Ja l)]):=by
 rw[Ae];conv=>lhs;whnf
 rw[DY zar]
 conv=>lhs;whnf
 simp only[NO];try with_reducible rfl
theorem tH{α:Type}{l:List α}(h:fits l 32768=true):l.length<=4294967296:=by
 simp only[XB,fits0,decide_eq_true_eq] at h;omega
noncomputable def ovC:Orc:=fun q=>match q with
 | .call f [.sl t l] []=>bif Nat.beq f 97&&decide (t=objT)&&fits l 32768 then some (.ret (.nm 0) [some (.row 94 t l)])
  else bif Nat.beq f 164&&decide (t=Ja)&&fits l 32768 then some (.ret (.nm 0) [some (.row 190 t l)])
  else none
 | _=>none
theorem A4O{E:Env}:∀ q r,ovC q=some r->A4A Tryz.prog I0 E q r:=by
 have e00:EnvOK Tryz.prog I0 E00:=⟨tg0,ft0,ct0.get,by kernel_rfl,fun _ _ h=>by cases h⟩
 intro q r h
 unfold ovC at h
 split at h
 ·rename_i f t l
  cases hb:(Nat.beq f 97&&decide (t=objT)&&fits l 32768) with
  | true =>
   rw[hb,cond_true] at h
   simp only[Bool.and_eq_true,decide_eq_true_eq] at hb
   obtain⟨⟨h1,rfl⟩,h3⟩:=hb
   obtain rfl:=Nat.eq_of_beq_eq_true h1
   obtain rfl:=Option.some.inj h
   exact tC (fun e=>by subst e;exact Xm e00 A2d) (Xm e00 (A4M l (tH h3)))
  | false =>
   rw[hb,cond_false] at h
   cases hb2:(Nat.beq f 164&&decide (t=Ja)&&fits l 32768) with
   | true =>
    rw[hb2,cond_true] at h
    simp only[Bool.and_eq_true,decide_eq_true_eq] at hb2
    obtain⟨⟨h1,rfl⟩,h3⟩:=hb2
    obtain rfl:=Nat.eq_of_beq_eq_true h1
    obtain rfl:=Option.some.inj h
    exact tC (fun e=>by subst e;exact Xm e00 A2e) (Xm e00 (A4N l (tH h3)))
   | false=>rw[hb2] at h;cases h
 ·cases h
end
end Go.Proofs.YtnhgnfdbdflhcaaGreatDoor
namespace Go.Proofs.YtnhgnfdbdflhcaaGreatDoor
open Go Go.RowKit Go.Eng Go.Ax
noncomputable def E0:Env:=⟨TT0,FT0,CT0,ovC⟩
theorem e0:EnvOK Tryz.prog I0 E0:=⟨tg0,ft0,ct0.get,by kernel_rfl,A4O⟩
theorem A5H{f:Nat}{args:List AV}{H:List Rs}{r:Rsp}(h:E0.ov (.call f args H)=some r):Y E0 (.call f args H)=some r:=by
 rw[Y.eq_1];simp only[Bj];rw[h]
theorem A4P(l:List (El objT))(hl:l.length<=4294967296):Y E0 (.call 97 [.sl objT l] [])=some (.ret (.nm 0) [some (.row 94 objT l)]) :=
 A5H zaX
theorem bz(l:List (El Ja))(hl:l.length<=4294967296):Y E0 (.call 164 [.sl Ja l] [])=some (.ret (.nm 0) [some (.row 190 Ja l)]) :=
 A5H zaX
end Go.Proofs.YtnhgnfdbdflhcaaGreatDoor
namespace Go.Proofs.YtnhgnfdbdflhcaaGreatDoor
open Go Go.RowKit Go.Eng Go.ChangeShapes Go.WideShapes Go.ChangeAt Go.Ax
variable {w:World}
theorem Vm{H:Type}{enc:TypeId×Value->H}{P:Program}(hl:laidOutB P=true){W W':World}(he:Ext W W'){sp:Nat->Bool}:
  ∀ {ts:List TypeId} {vs:List Value} {ds:List (DataW H)} {ps:List MemPlace},(ts.all fun t=>P.readableRec t&&decide (t<P.types.size))=true ->
  DataW.TrodAll enc P W 0 (fun _=>true) true ts vs ds ps->(∀ p∈ps,p.block<W.heap.size)->(∀ p∈ps,sp p.block=true)->DataW.TrodAll enc P W' 0 sp true ts vs ds ps
 | [],_,_,_,_,h,_,_=>by
  obtain⟨rfl,rfl,rfl⟩:=trodAll_nil h
  exact trodAll_mk0
 | t::ts,_,_,_,hr,h,hlt,hsp=>by
  obtain⟨v,vs1,d,ds1,a,b,rfl,rfl,rfl,h1,h2⟩:=trodAll_cons h
  simp only[List.all_cons,Bool.and_eq_true,decide_eq_true_eq] at hr
  exact⟨a,b,WideElems.Trod_stays hl hr.1.1 hr.1.2 h1 (fun x hx=>he.same (hlt x (by simp[hx]))) (fun x hx=>hsp x (by simp[hx])),
   Vm hl he hr.2 h2 (fun x hx=>hlt x (by simp[hx])) (fun x hx=>hsp x (by simp[hx])),rfl⟩
theorem wH{H:Type}{enc:TypeId×Value->H}{P:Program}{f:Func}{s:ChangeSpec}{W W':World}{args:Array Value}{ds gs:List (DataW H)}{before:List MemPlace}{tb:TypeId}
  (hW:DataW.Whole enc P f.params.toList s.vars false W args.toList ds gs before) (hl:laidOutB P=true) (hr:(f.params.toList.all fun t=>P.readableRec t&&decide (t<P.types.size))=true)
  (hv:s.vars=[]) (hres:f.resultTypes = #[tb]) (htb:P.underlying tb=some .bool) (h1:(s.fn H ds).results=[.lit (.bool true)]) (h2:(s.fn H ds).args=ds) (h3:(s.fn H ds).vars=[]) (he:Ext W W') :
  s.post enc P f false true false false W args (.bool true) W':=by
 have hW':=hW
 have hlt:∀ p∈before,p.block<W.heap.size:=fun p hp=>hW'.lt p hp
 obtain⟨p,q,hA,hV,rfl,hfz,hnd⟩:=hW
 rw[hv] at hV
 obtain⟨rfl,rfl⟩:=trodVars_none hV
 refine⟨ds,[],_,[],p,[],hW',?_,?_,?_,?_,fun h=>by cases h⟩
 ·rw[hres,List.append_nil,h1]
  exact trodAll_cons_mk (shut_bool htb _) trodAll_mk0
 ·rw[List.append_nil,h2]
  exact Vm hl he hr hA (fun x hx=>hlt x (by simpa using hx)) (fun x hx=>by simpa using hlt x (by simpa using hx))
 ·rw[List.append_nil,h3,hv];rfl
 ·exact he.frame _
theorem laidOut:laidOutB Tryz.prog=true:=zas
theorem own:ownKnob Tryz.prog.godebug=none:=zas
theorem wI{f:FuncId}{ins:List AV}(h:Y E0 (.call f ins [])=some (.ret (.b true) [])){args:List Value}(hI:∀ w',Ext w w'->I0 w')(hr:Ad ⟨fun k=>k<0,fun _=>undef,No,w⟩ ins args):Calls Tryz.prog f args.toArray w (Ret fun v w'=>v=.bool true/\Ext w w'):=by
 refine Ret.mono (Xm e0 h (fun _=>undef) No w args ⟨fun b hb=>hb.elim,fun w' hs=>hI w' hs.ext⟩ hr ⟨(fun k R h=>by cases h),(fun k k' R R' b h=>by cases h),fun k h=>absurd h (IX k)⟩) ?_
 rintro v w' ⟨ν',ok⟩
 have h1:=ok.rep
 simp only[Rep] at h1
 refine⟨h1,(ok.stp.mono fun i _ hh=>?_).ext⟩
 obtain⟨k,R,hk,_⟩:=hh
 cases hk
theorem WY{τ:Ty}{x:El τ}{v:Value}{N:Nat->Prop}{ν:Nat->Value}{a:AV}(hf:flat τ x=[a])(hc:v.cells.toList=[v])(h:CR τ x v.cells.toList w):Ad ⟨N,ν,No,w⟩ [a] [v]:=by
 rw[hc] at h
 have:=CR.reps (c:=⟨N,ν,No,w⟩) (fun w' hs=>h.ext (Stp.ext hs))
 rw[hf] at this;exact this
theorem gTab:Tryz.prog.globalNamed "sealwright/digest.round256" = some 0:=zas
theorem A0T:(Tryz.prog.globals[0]?).map (·.type)=some 238:=zas
theorem A0U:Tryz.prog.cellsOf 238=64:=zas
theorem wJ:Tryz.prog.cellsOf 134=1:=zas
def k256i:List Int:=JB.map fun x=>(x.toNat:Int)
theorem A0V:(Rows.laid_sealwright_digest_round256:DataW Unit)=Lib.tabData .u32 k256i:=zas
theorem kt{W:World} (h:laidMetH Tryz.prog [("sealwright/digest.round256", Rows.laid_sealwright_digest_round256)] W):KT W:=by
 have h':laidMet Tryz.prog [("sealwright/digest.round256", Lib.tabData .u32 k256i)] W:=by
  have:=h
  rw[<-A0V]
  exact h
 have ht:=Lib.tabIs_of_head (rest:=[]) gTab A0T Tryz.underlying238 Tryz.underlying134 wJ A0U h'
 intro j hj
 rw[Nat.zero_add,ht.cell gTab j (show j<k256i.length from hj)]
 have hj':j<JB.length:=hj
 simp[k256i,List.getD,hj',FP]
noncomputable def laidWorld(os:Os):World :=
 {World.holding Tryz.prog os ⟨#[],#[],[]⟩ with heap:=(World.holding Tryz.prog os ⟨#[],#[],[]⟩).heap.modify 0 fun
   | .cells _ t frozen=>.cells (k256i.map fun z=>Value.int .u32 z).toArray t frozen
   | o=>o}
theorem hI0 (h:laidMetH Tryz.prog [("sealwright/digest.round256", Rows.laid_sealwright_digest_round256)] w):∀ w',Ext w w'->I0 w':=fun w' he=>(kt h).ext he
end Go.Proofs.YtnhgnfdbdflhcaaGreatDoor
namespace Go.Proofs.YtnhgnfdbdflhcaaGreatDoor
open Go
variable (P:Program)(X:List (List Char))
def iniH:List Char:=([104,97,114,110,101,115,115]:List Nat).map Char.ofNat
def iniS:List Char:=([53,49,102,51,53,52,56,101,49,54,52,100,52,54,101,98,101,100,97,50,99,52,48,98,101,49,98,51,53,56,54,55,53,54,50,99,48,57,97,52,50,99,98,52,98,98,102,49,57,48,98,49,57,48,48,51,102,49,102,56,101,50,99,48]:List Nat).map Char.ofNat
def iniC:List Char:=([99,117,116]:List Nat).map Char.ofNat
def iniR:List Char:=([97,116,32,115,101,97,108,119,114,105,103,104,116,47,115,101,97,108,119,114,105,103,104,116,108,97,119,50,49,46,79,98,106,101,99,116,81,117,111,116,101,32,115,101,97,108,119,114,105,103,104,116,47,115,101,97,108,119,114,105,103,104,116,108,97,119,50,49,46,79,98,106,101,99,116,80,114,105,109,97,114,121,32,115,101,97,108,119,114,105,103,104,116,47,115,101,97,108,119,114,105,103,104,116,108,97,119,50,49,46,79,98,106,101,99,116,67,111,109,109,97,110,100,115]:List Nat).map Char.ofNat
def iniB:Char:=Char.ofNat 32
def iniL:List Char:=iniH++iniB::(iniS++iniB::(iniC++iniB::iniR))
theorem A6Y:Tryz.prog.initOrder=String.ofList iniL:=zas
theorem QP:∀(w r:List Char),(w.all fun c=>c != iniB)=true->wordsSigns (w++iniB::r)=w::wordsSigns r
 | [],r,_=>rfl
 | c::w,r,h=>by
  rw[List.all_cons,Bool.and_eq_true] at h
  have ih:=QP w r h.2
  rw[List.cons_append]
  have hc:c≠iniB:=by intro e;rw[e] at h;exact absurd h.1 zal
  generalize wordsSigns r=g at ih ⊢
  unfold wordsSigns
  split
  ·rename_i h1;cases h1
  ·rename_i h1;cases h1;exact absurd rfl hc
  ·rename_i h1;cases h1;rw[ih]
theorem A5I:wordsSigns Tryz.prog.initOrder.toList=iniH::iniS::iniC::wordsSigns iniR:=by
 rw[A6Y,String.toList_ofList,iniL,QP _ _ zaI,QP _ _ zaI,QP _ _ zaI]
theorem tl{s:String}(l:List Char)(h:s=String.ofList l):s.toList=l:=by rw[h];exact String.toList_ofList
theorem A4Q: "gc".toList=(([103,99]:List Nat).map Char.ofNat):=tl _ zas
theorem A0W: "spec".toList=(([115,112,101,99]:List Nat).map Char.ofNat):=tl _ zas
theorem A0X: "carried".toList=(([99,97,114,114,105,101,100]:List Nat).map Char.ofNat):=tl _ zas
theorem tlCut: "cut".toList=iniC:=tl _ zas
theorem A3N: "harness".toList=iniH:=tl _ zas
theorem A5J: "finals".toList=(([102,105,110,97,108,115]:List Nat).map Char.ofNat):=tl _ zas
theorem A6Z: "reflectrows".toList=(([114,101,102,108,101,99,116,114,111,119,115]:List Nat).map Char.ofNat):=tl _ zas
theorem A6a: "leanrows".toList=(([108,101,97,110,114,111,119,115]:List Nat).map Char.ofNat):=tl _ zas
theorem A6b: "onebuild".toList=(([111,110,101,98,117,105,108,100]:List Nat).map Char.ofNat):=tl _ zas
theorem A6c: "publicsums".toList=(([112,117,98,108,105,99,115,117,109,115]:List Nat).map Char.ofNat):=tl _ zas
theorem A6d: "eqguard".toList=(([101,113,103,117,97,114,100]:List Nat).map Char.ofNat):=tl _ zas
theorem A6e: "ownunsafe".toList=(([111,119,110,117,110,115,97,102,101]:List Nat).map Char.ofNat):=tl _ zas
theorem A6f: "libbeside".toList=(([108,105,98,98,101,115,105,100,101]:List Nat).map Char.ofNat):=tl _ zas
theorem A6g: "ownbeside".toList=(([111,119,110,98,101,115,105,100,101]:List Nat).map Char.ofNat):=tl _ zas
theorem A6h: "reflbeside".toList=(([114,101,102,108,98,101,115,105,100,101]:List Nat).map Char.ofNat):=tl _ zas
theorem A5K: "aliases".toList=(([97,108,105,97,115,101,115]:List Nat).map Char.ofNat):=tl _ zas
theorem A5L: "afterinit".toList=(([97,102,116,101,114,105,110,105,116]:List Nat).map Char.ofNat):=tl _ zas
theorem A5M: "crcplain".toList=(([99,114,99,112,108,97,105,110]:List Nat).map Char.ofNat):=tl _ zas
theorem A5N: "roadunsafe".toList=(([114,111,97,100,117,110,115,97,102,101]:List Nat).map Char.ofNat):=tl _ zas
theorem A5O: "fmthandon".toList=(([102,109,116,104,97,110,100,111,110]:List Nat).map Char.ofNat):=tl _ zas
theorem GI(o:String)(os:List String)(l w:List Char)(ws:List (List Char))(h:o.toList=l)(hw:(w==l)=false):stripLifts (o::os) (w::ws)=stripLifts os (w::ws):=by
 rw[stripLifts,h,hw,if_neg zal]
theorem A3O:stripLifts liftWords (iniC::X)=([],iniC::X):=by
 unfold liftWords
 rw[GI _ _ _ _ _ A5J zaI]
 rw[GI _ _ _ _ _ A6Z zaI]
 rw[GI _ _ _ _ _ A6a zaI]
 rw[GI _ _ _ _ _ A6b zaI]
 rw[GI _ _ _ _ _ A6c zaI]
 rw[GI _ _ _ _ _ A6d zaI]
 rw[GI _ _ _ _ _ A6e zaI]
 rw[GI _ _ _ _ _ A6f zaI]
 rw[GI _ _ _ _ _ A6g zaI]
 rw[GI _ _ _ _ _ A6h zaI]
 rw[GI _ _ _ _ _ A5K zaI]
 rw[GI _ _ _ _ _ A5L zaI]
 rw[GI _ _ _ _ _ A5M zaI]
 rw[GI _ _ _ _ _ A5N zaI]
 rw[GI _ _ _ _ _ A5O zaI]
 rfl
theorem A5P:behindMainWord (iniH::iniS::iniC::X)=iniC::X:=by
 unfold behindMainWord;rw[A3N];kernel_rfl
theorem A0Y:behindMainWord (wordsSigns Tryz.prog.initOrder.toList)=iniC::wordsSigns iniR:=by rw[A5I,A5P]
theorem A3P(h:behindMainWord (wordsSigns P.initOrder.toList)=iniC::X):P.headLifts=[]:=by
 unfold Program.headLifts
 simp only[h,A3O,tlCut]
 rfl
theorem A5Q(h:behindMainWord (wordsSigns P.initOrder.toList)=iniC::X)(h1:P.laysLater=false)(h2:P.bearsReflect=false)(h3:P.doorFits []=true):P.mayEnter=true:=by
 unfold Program.mayEnter
 simp only[h,A3O,tlCut,A4Q,A0W,A0X,h1,h2,h3]
 rfl
theorem A4R(h:behindMainWord (wordsSigns P.initOrder.toList)=iniC::X):P.make=some .cut:=by
 unfold Program.make
 simp only[h,A3P P X h,tlCut,A4Q,A0W,A0X,A5J]
 rw[if_neg zaI,if_pos (by rw[show(iniC==iniC)=true from by decide +kernel];rfl)]
theorem A5R(h:behindMainWord (wordsSigns P.initOrder.toList)=iniC::X):P.liftsFinal=false:=by
 unfold Program.liftsFinal
 simp only[h,A3P P X h,tlCut,A4Q,A0X]
 rfl
theorem A5S: "51f3548e164d46ebeda2c40be1b35867562c09a42cb4bbf190b19003f1f8e2c0".toList=iniS:=tl _ zas
theorem A4S(h:wordsSigns P.initOrder.toList=iniH::iniS::X):P.mainIs=some (true,iniS):=by
 unfold Program.mainIs
 simp only[h,A3N]
 rw[if_neg (by rw[show isSumSigns iniS=true from by decide +kernel];decide),if_pos zaI]
theorem A6i:Tryz.prog.mainIs=some (true, "51f3548e164d46ebeda2c40be1b35867562c09a42cb4bbf190b19003f1f8e2c0".toList):=by rw[A5S];exact A4S _ _ A5I
theorem A6j:Tryz.prog.mayEnter=true:=A5Q _ _ A0Y zas zas zas
theorem A6k:Tryz.prog.liftsFinal=false:=A5R _ _ A0Y
theorem A6l:Tryz.prog.make=some .cut:=A4R _ _ A0Y
end Go.Proofs.YtnhgnfdbdflhcaaGreatDoor
namespace Go.Proofs.YtnhgnfdbdflhcaaGreatDoor
open Go Go.Ax Go.Eng
variable (h:List UInt32)(l:List UInt8)(x:UInt32)(b:List UInt8)(ws:List UInt32)(p:List UInt8)(h0 h1 h2:UInt32)(t:Nat)(h3 h4 h5 h6 h7:UInt32)
section
attribute [local irreducible] Cj Dt D9 DT DK BH Du Ey Fh FD Et D7 CV Df DX and' Dk DU CG Ba Bl CJ CS BK BM BB BG Dv G7 Dw EM Dl Bh CO Bz C9 Bo BD Bi BO Be BZ Dx Bf DL Bd BI D6 Dy fits Dz Dn AZ Ap BL
theorem Ic(k:Int)(s:Nat)(h0:0<s/\s<32)(hk:(Bl .and (Bh k) (UInt64.ofNat 31)).toNat=s):Y E0 (.call 265 [.u32 x,.i k] [])=some (.ret (.u32 (fH x s)) []):=by
 refine BQ ?_
 exact congrArg (fun q=>some (Rsp.ret (.u32 q) [])) (A0M x s h0 hk)
theorem A2f:Y E0 (.call 265 [.u32 x,.i (-7)] [])=some (.ret (.u32 (OY x 7)) []):=(Ic x (-7) 25 zal zaQ).trans (by rw[KI x 25 7 rfl])
theorem A0Z:Y E0 (.call 265 [.u32 x,.i (-18)] [])=some (.ret (.u32 (OY x 18)) []):=(Ic x (-18) 14 zal zaQ).trans (by rw[KI x 14 18 rfl])
theorem A0a:Y E0 (.call 265 [.u32 x,.i (-17)] [])=some (.ret (.u32 (OY x 17)) []):=(Ic x (-17) 15 zal zaQ).trans (by rw[KI x 15 17 rfl])
theorem A0b:Y E0 (.call 265 [.u32 x,.i (-19)] [])=some (.ret (.u32 (OY x 19)) []):=(Ic x (-19) 13 zal zaQ).trans (by rw[KI x 13 19 rfl])
theorem A2g:Y E0 (.call 265 [.u32 x,.i (-6)] [])=some (.ret (.u32 (OY x 6)) []):=(Ic x (-6) 26 zal zaQ).trans (by rw[KI x 26 6 rfl])
theorem A0c:Y E0 (.call 265 [.u32 x,.i (-11)] [])=some (.ret (.u32 (OY x 11)) []):=(Ic x (-11) 21 zal zaQ).trans (by rw[KI x 21 11 rfl])
theorem A0d:Y E0 (.call 265 [.u32 x,.i (-25)] [])=some (.ret (.u32 (OY x 25)) []):=(Ic x (-25) 7 zal zaQ).trans (by rw[KI x 7 25 rfl])
theorem A2h:Y E0 (.call 265 [.u32 x,.i (-2)] [])=some (.ret (.u32 (OY x 2)) []):=(Ic x (-2) 30 zal zaQ).trans (by rw[KI x 30 2 rfl])
theorem A0e:Y E0 (.call 265 [.u32 x,.i (-13)] [])=some (.ret (.u32 (OY x 13)) []):=(Ic x (-13) 19 zal zaQ).trans (by rw[KI x 19 13 rfl])
theorem A0f:Y E0 (.call 265 [.u32 x,.i (-22)] [])=some (.ret (.u32 (OY x 22)) []):=(Ic x (-22) 10 zal zaQ).trans (by rw[KI x 10 22 rfl])
theorem A2i:Y E0 (.call 265 [.u32 x,.i 1] [])=some (.ret (.u32 (fH x 1)) []):=Ic x 1 1 zal zaQ
theorem A2j:Y E0 (.call 265 [.u32 x,.i 5] [])=some (.ret (.u32 (fH x 5)) []):=Ic x 5 5 zal zaQ
theorem A0g:Y E0 (.call 265 [.u32 x,.i 30] [])=some (.ret (.u32 (fH x 30)) []):=Ic x 30 30 zal zaQ
theorem KP(k:UInt64)(s:Nat)(h0:0<s/\s<32)(hk:k.toNat=s):Y E0 (.call 228 [.u32 x,.u64 k] [])=some (.ret (.u32 (OY x s)) []):=by
 refine BQ ?_
 exact congrArg (fun q=>some (Rsp.ret (.u32 q) [])) (A4L x s h0 hk)
theorem cO(k:UInt64)(s:Nat)(h0:0<s/\s<32)(hk:k.toNat=s):Y E0 (.call 320 [.u32 x,.u64 k] [])=some (.ret (.u32 (fH x s)) []):=by
 refine BQ ?_
 exact congrArg (fun q=>some (Rsp.ret (.u32 q) [])) (A0M x s h0 hk)
theorem A4T:Y E0 (.call 228 [.u32 x,.u64 (UInt64.ofNat 7)] [])=some (.ret (.u32 (OY x 7)) []):=KP x _ 7 zal rfl
theorem A2k:Y E0 (.call 228 [.u32 x,.u64 (UInt64.ofNat 18)] [])=some (.ret (.u32 (OY x 18)) []):=KP x _ 18 zal rfl
theorem A2l:Y E0 (.call 228 [.u32 x,.u64 (UInt64.ofNat 17)] [])=some (.ret (.u32 (OY x 17)) []):=KP x _ 17 zal rfl
theorem A2m:Y E0 (.call 228 [.u32 x,.u64 (UInt64.ofNat 19)] [])=some (.ret (.u32 (OY x 19)) []):=KP x _ 19 zal rfl
theorem A4U:Y E0 (.call 228 [.u32 x,.u64 (UInt64.ofNat 6)] [])=some (.ret (.u32 (OY x 6)) []):=KP x _ 6 zal rfl
theorem A2n:Y E0 (.call 228 [.u32 x,.u64 (UInt64.ofNat 11)] [])=some (.ret (.u32 (OY x 11)) []):=KP x _ 11 zal rfl
theorem A2o:Y E0 (.call 228 [.u32 x,.u64 (UInt64.ofNat 25)] [])=some (.ret (.u32 (OY x 25)) []):=KP x _ 25 zal rfl
theorem A4V:Y E0 (.call 228 [.u32 x,.u64 (UInt64.ofNat 2)] [])=some (.ret (.u32 (OY x 2)) []):=KP x _ 2 zal rfl
theorem A2p:Y E0 (.call 228 [.u32 x,.u64 (UInt64.ofNat 13)] [])=some (.ret (.u32 (OY x 13)) []):=KP x _ 13 zal rfl
theorem A2q:Y E0 (.call 228 [.u32 x,.u64 (UInt64.ofNat 22)] [])=some (.ret (.u32 (OY x 22)) []):=KP x _ 22 zal rfl
theorem A4W:Y E0 (.call 320 [.u32 x,.u64 (UInt64.ofNat 1)] [])=some (.ret (.u32 (fH x 1)) []):=cO x _ 1 zal rfl
theorem A4X:Y E0 (.call 320 [.u32 x,.u64 (UInt64.ofNat 5)] [])=some (.ret (.u32 (fH x 5)) []):=cO x _ 5 zal rfl
theorem A2r:Y E0 (.call 320 [.u32 x,.u64 (UInt64.ofNat 30)] [])=some (.ret (.u32 (fH x 30)) []):=cO x _ 30 zal rfl
theorem tJ(i:Nat)(h:4*i+3<l.length)(hl:l.length<=4294967296):Y E0 (.call 264 [.sl .u8 l,.i (i:Int)] [])=some (.ret (.u32 (be32 l (4*i))) []):=by
 refine BQ ?_
 rw[E8 zaa]
 conv=>lhs;whnf
 refine BQ ?_
 rw[E8 zaa]
 conv=>lhs;whnf
 refine BQ ?_
 rw[E8 zaa]
 conv=>lhs;whnf
 refine BQ ?_
 rw[E8 zaa]
 conv=>lhs;whnf
 refine BQ ?_
 exact congrArg (fun q=>some (Rsp.ret (.u32 q) [])) (sW l (4*i) (List.getElem?_eq_some_iff.2 ⟨by omega,getElem_congr_idx zaa⟩) (List.getElem?_eq_some_iff.2 ⟨by omega,getElem_congr_idx zaa⟩) (List.getElem?_eq_some_iff.2 ⟨by omega,getElem_congr_idx zaa⟩) (List.getElem?_eq_some_iff.2 ⟨by omega,getElem_congr_idx zaa⟩))
theorem iZ(i:Nat)(h:4*i+3<l.length)(hl:l.length<=4294967296):Y E0 (.call 227 [.sl .u8 l,.i (i:Int)] [])=some (.ret (.u32 (be32 l (4*i))) []):=by
 refine BQ ?_
 rw[E8 zaa]
 conv=>lhs;whnf
 refine BQ ?_
 rw[E8 zaa]
 conv=>lhs;whnf
 refine BQ ?_
 rw[E8 zaa]
 conv=>lhs;whnf
 refine BQ ?_
 rw[E8 zaa]
 conv=>lhs;whnf
 refine BQ ?_
 exact congrArg (fun q=>some (Rsp.ret (.u32 q) [])) (sW l (4*i) (List.getElem?_eq_some_iff.2 ⟨by omega,getElem_congr_idx zaa⟩) (List.getElem?_eq_some_iff.2 ⟨by omega,getElem_congr_idx zaa⟩) (List.getElem?_eq_some_iff.2 ⟨by omega,getElem_congr_idx zaa⟩) (List.getElem?_eq_some_iff.2 ⟨by omega,getElem_congr_idx zaa⟩))
theorem A0h:Y E0 (.call 225 [] [])=some (.ret (.agg ((List.range 64).map fun i=>AV.u32 (JB.getD i 0))) []):=by
 rw[Ae];kernel_rfl
end
section
attribute [local irreducible] Cj Dt D9 DT DK BH Du Ey Fh FD Et D7 CV Df DX and' Dk DU CG Ba Bl CJ CS BK BM BB BG Dv G7 Dw EM Dl Bh CO Bz C9 Bo BD Bi BO Be BZ Dx Bf DL Bd BI D6 Dy fits Dz Dn AZ Ap BL
attribute [local irreducible] FU
theorem Tz{ws s:List UInt32}{t:Nat}{x:UInt32}(h:ws.take t=s)(ht:t<ws.length):(ws.set t x).take (t+1)=s++[x]:=by
 subst h
 rw[List.take_succ_eq_append_getElem (by simpa using ht),List.getElem_set_self,List.take_set_of_le (Nat.le_refl t)]
theorem Mc{ws s:List UInt32}{t j:Nat}(h:ws.take t=s)(hj:j<t):s.getD j 0=ws.getD j 0:=by
 subst h
 simp only[List.getD,List.getElem?_take,if_pos hj]
theorem A3Q(hs:ws.take t=Ep b t)(h:16<=t):
  Ba .add (Ba .add (Ba .add (Ba .xor (Ba .xor (OY (ws.getD (0+((t:Int)-2).toNat*1) 0) 17) (OY (ws.getD (0+((t:Int)-2).toNat*1) 0) 19)) (BB (ws.getD (0+((t:Int)-2).toNat*1) 0) (UInt64.ofNat 10).toNat)) (ws.getD (0+((t:Int)-7).toNat*1) 0)) (Ba .xor (Ba .xor (OY (ws.getD (0+((t:Int)-15).toNat*1) 0) 7) (OY (ws.getD (0+((t:Int)-15).toNat*1) 0) 18)) (BB (ws.getD (0+((t:Int)-15).toNat*1) 0) (UInt64.ofNat 3).toNat))) (ws.getD (0+((t:Int)-16).toNat*1) 0)=Ny b (Ep b t) t:=by
 rw[show 0+((t:Int)-2).toNat*1=t-2 from by omega,show 0+((t:Int)-7).toNat*1=t-7 from by omega,show 0+((t:Int)-15).toNat*1=t-15 from by omega,show 0+((t:Int)-16).toNat*1=t-16 from by omega]
 rw[Ny,if_neg zaa,Mc hs (show t-2<t by omega),Mc hs (show t-7<t by omega),Mc hs (show t-15<t by omega),Mc hs (show t-16<t by omega)]
 rw[I5 zal,I5 zal]
 simp only[Ib,Gh]
 rfl
theorem tK(b:List UInt8)(h0 h1 h2 h3 h4 h5 h6 h7:UInt32)(hb:b.length=64):∀(k t:Nat) (ws:List UInt32),t+k=64->ws.length=64->ws.take t=Ep b t ->
  Y E0 (.loop 213 0 1 2 [(0,AV.pa 0 0),(1,AV.sl Ty.u8 b),(4,AV.pa 1 0),(17,AV.i t)] [(0,some (.var [.u32 h0,.u32 h1,.u32 h2,.u32 h3,.u32 h4,.u32 h5,.u32 h6,.u32 h7])),(1,some (Rs.var (FU ws)))])=some (.fin (.exit 0) 2 [(0,AV.pa 0 0),(4,AV.pa 1 0)] [(0,some (.var [.u32 h0,.u32 h1,.u32 h2,.u32 h3,.u32 h4,.u32 h5,.u32 h6,.u32 h7])),(1,some (Rs.var (FU (Ep b 64))))])
 | 0,t,ws,hk,hw,hs=>by
  have e:ws=Ep b 64:=zbh
  rw[<-e]
  rw[Ae];conv=>lhs;whnf
  rw[A0N hw (show 64<=t by omega)]
  refine BQ ?_
  rfl
 | k+1,t,ws,hk,hw,hs=>by
  have ih:=fun x (hx:x=Ny b (Ep b t) t)=>tK b h0 h1 h2 h3 h4 h5 h6 h7 hb k (t+1) (ws.set t x) zaa (by simpa using hw) zbo
  rw[Ae];conv=>lhs;whnf
  refine BQ ?_
  rcases AY (↑t) 16 with hc0|hc0
  ·
   refine BQ ?_
   rw[tJ _ _ DZ DZ]
   conv=>lhs;whnf
   try dsimp -iota -beta -eta -zeta only
   rw[Gj zaa]
   conv=>lhs;whnf
   rw[ET zaa]
   conv=>lhs;whnf
   try dsimp -iota -beta -eta -zeta only
   rw[JS zaa];conv=>lhs;whnf
   rw[Kr zaa]
   refine BQ ?_
   rw[Ik hw]
   refine BQ ?_
   rw[show((t:Int)+1)=((t+1:Nat):Int) from by omega,show 0+((t:Nat):Int).toNat*1=t from by omega];refine(congrArg (Y E0) ?_).trans (ih (be32 b (4*t)) (by rw[Ny,if_pos zaa]));rw[Ik hw];rfl
  refine BQ ?_
  rw[Dh zaa]
  refine BQ ?_
  rw[Dh zaa]
  refine BQ ?_
  rw[A2f _]
  refine BQ ?_
  rw[A0Z _]
  refine BQ ?_
  rw[A0a _]
  refine BQ ?_
  rw[A0b _]
  refine BQ ?_
  rw[Dh zaa]
  refine BQ ?_
  rw[Dh zaa]
  conv=>lhs;whnf
  try dsimp -iota -beta -eta -zeta only
  rw[Gj zaa]
  conv=>lhs;whnf
  rw[ET zaa]
  conv=>lhs;whnf
  try dsimp -iota -beta -eta -zeta only
  rw[JS zaa];conv=>lhs;whnf
  rw[Kr zaa]
  conv=>lhs;whnf
  try dsimp -iota -beta -eta -zeta only
  rw[Ik hw]
  refine BQ ?_
  rw[show((t:Int)+1)=((t+1:Nat):Int) from by omega,show 0+((t:Nat):Int).toNat*1=t from by omega];refine(congrArg (Y E0) ?_).trans (ih _ (A3Q b ws t hs zaa));rw[Ik hw];rfl
theorem A0i(hb:b.length=64):Y E0 (.loop 213 0 1 2 [(0,AV.pa 0 0),(1,AV.sl Ty.u8 b),(4,AV.pa 1 0),(17,AV.i 0)] [(0,some (.var [.u32 h0,.u32 h1,.u32 h2,.u32 h3,.u32 h4,.u32 h5,.u32 h6,.u32 h7])),(1,some (Rs.var [.u32 0,.u32 0,.u32 0,.u32 0,.u32 0,.u32 0,.u32 0,.u32 0,.u32 0,.u32 0,.u32 0,.u32 0,.u32 0,.u32 0,.u32 0,.u32 0,.u32 0,.u32 0,.u32 0,.u32 0,.u32 0,.u32 0,.u32 0,.u32 0,.u32 0,.u32 0,.u32 0,.u32 0,.u32 0,.u32 0,.u32 0,.u32 0,.u32 0,.u32 0,.u32 0,.u32 0,.u32 0,.u32 0,.u32 0,.u32 0,.u32 0,.u32 0,.u32 0,.u32 0,.u32 0,.u32 0,.u32 0,.u32 0,.u32 0,.u32 0,.u32 0,.u32 0,.u32 0,.u32 0,.u32 0,.u32 0,.u32 0,.u32 0,.u32 0,.u32 0,.u32 0,.u32 0,.u32 0,.u32 0]))])=some (.fin (.exit 0) 2 [(0,AV.pa 0 0),(4,AV.pa 1 0)] [(0,some (.var [.u32 h0,.u32 h1,.u32 h2,.u32 h3,.u32 h4,.u32 h5,.u32 h6,.u32 h7])),(1,some (Rs.var (FU (Ep b 64))))]):=by
 have e:=tK b h0 h1 h2 h3 h4 h5 h6 h7 hb 64 0 (List.replicate 64 0) rfl rfl rfl
 rw[Cf (ws:=List.replicate 64 0) (n:=64) rfl] at e
 exact e
end
section
attribute [local irreducible] Cj Dt D9 DT DK BH Du Ey Fh FD Et D7 CV Df DX and' Dk DU CG Ba Bl CJ CS BK BM BB BG Dv G7 Dw EM Dl Bh CO Bz C9 Bo BD Bi BO Be BZ Dx Bf DL Bd BI D6 Dy fits Dz Dn AZ Ap BL
attribute [local irreducible] FU JB Hy
theorem tN(ws:List UInt32)(hw:ws.length=64)(h0 h1 h2 h3 h4 h5 h6 h7:UInt32):∀(k t:Nat) (a0 a1 a2 a3 a4 a5 a6 a7:UInt32),t+k=64->Y E0 (.loop 213 1 1 3 [(0,AV.pa 0 0),(4,AV.pa 1 0),(10,AV.pa 2 0),(70,AV.i t)] [(0,some (.var [.u32 h0,.u32 h1,.u32 h2,.u32 h3,.u32 h4,.u32 h5,.u32 h6,.u32 h7])),(1,some (Rs.var (FU ws))),(2,some (.var [.u32 a0,.u32 a1,.u32 a2,.u32 a3,.u32 a4,.u32 a5,.u32 a6,.u32 a7]))])=some (.fin (.exit 2) 2 [(0,AV.pa 0 0),(10,AV.pa 1 0)] [(0,some (.var [.u32 h0,.u32 h1,.u32 h2,.u32 h3,.u32 h4,.u32 h5,.u32 h6,.u32 h7])),(1,some (Rs.var (FU (Hy ws k t [a0,a1,a2,a3,a4,a5,a6,a7]))))])
 | 0,t,a0,a1,a2,a3,a4,a5,a6,a7,hk=>by
  rw[Ae];conv=>lhs;whnf
  refine BQ ?_
  unfold Hy FU;rfl
 | k+1,t,a0,a1,a2,a3,a4,a5,a6,a7,hk=>by
  have ih:=fun s0 s1 s2 s3 s4 s5 s6 s7=>tN ws hw h0 h1 h2 h3 h4 h5 h6 h7 k (t+1) s0 s1 s2 s3 s4 s5 s6 s7 zaa
  rw[Ae];conv=>lhs;whnf
  refine BQ ?_
  rw[A2g _]
  refine BQ ?_
  rw[A0c _]
  refine BQ ?_
  rw[A0d _]
  conv=>lhs;whnf
  try dsimp -iota -beta -eta -zeta only
  rw[Gj zaa]
  conv=>lhs;whnf
  rw[ET zaa]
  conv=>lhs;whnf
  try dsimp -iota -beta -eta -zeta only
  rw[Gj zaa]
  conv=>lhs;whnf
  rw[ET zaa]
  conv=>lhs;whnf
  rw[A0j zaa]
  refine BQ ?_
  rw[Dh zaa]
  refine BQ ?_
  rw[A2h _]
  refine BQ ?_
  rw[A0e _]
  refine BQ ?_
  rw[A0f _]
  refine BQ ?_
  ((conv in(close _ _ _ _)=>skip);rw[Cf hw])
  refine BQ ?_
  rw[show((t:Int)+1)=((t+1:Nat):Int) from by omega];refine((congrArg (Y E0) za2).trans (ih _ _ _ _ _ _ _ _)).trans ?_;simp only[Ib,Gh,I7,show 0+(t:Int).toNat*1=t from by omega];rw[show Hy ws (k+1) t [a0,a1,a2,a3,a4,a5,a6,a7]=Hy ws k (t+1) (aS (JB.getD t 0) (ws.getD t 0) [a0,a1,a2,a3,a4,a5,a6,a7]) from by rw[Hy]];rfl
end
section
attribute [local irreducible] Cj Dt D9 DT DK BH Du Ey Fh FD Et D7 CV Df DX and' Dk DU CG Ba Bl CJ CS BK BM BB BG Dv G7 Dw EM Dl Bh CO Bz C9 Bo BD Bi BO Be BZ Dx Bf DL Bd BI D6 Dy fits Dz Dn AZ Ap BL
attribute [local irreducible] FU JB Hy
theorem A0k(hw:ws.length=64)(h0 h1 h2 h3 h4 h5 h6 h7 a0 a1 a2 a3 a4 a5 a6 a7:UInt32):Y E0 (.loop 213 1 1 3 [(0,AV.pa 0 0),(4,AV.pa 1 0),(10,AV.pa 2 0),(70,AV.i 0)] [(0,some (.var [.u32 h0,.u32 h1,.u32 h2,.u32 h3,.u32 h4,.u32 h5,.u32 h6,.u32 h7])),(1,some (Rs.var ((List.range 64).map fun i=>AV.u32 (ws.getD i 0)))),(2,some (.var [.u32 a0,.u32 a1,.u32 a2,.u32 a3,.u32 a4,.u32 a5,.u32 a6,.u32 a7]))])=some (.fin (.exit 2) 2 [(0,AV.pa 0 0),(10,AV.pa 1 0)] [(0,some (.var [.u32 h0,.u32 h1,.u32 h2,.u32 h3,.u32 h4,.u32 h5,.u32 h6,.u32 h7])),(1,some (Rs.var (FU (Hy ws 64 0 [a0,a1,a2,a3,a4,a5,a6,a7]))))]):=by
 have e:=tN ws hw h0 h1 h2 h3 h4 h5 h6 h7 64 0 a0 a1 a2 a3 a4 a5 a6 a7 rfl
 rw[Cf hw] at e
 exact e
theorem A2s(s0 s1 s2 s3 s4 s5 s6 s7:UInt32):Y E0 (.loop 213 2 1 2 [(0,.pa 0 0),(10,.pa 1 0),(152,.i 0)] [(0,some (.var [.u32 h0,.u32 h1,.u32 h2,.u32 h3,.u32 h4,.u32 h5,.u32 h6,.u32 h7])),(1,some (.var [.u32 s0,.u32 s1,.u32 s2,.u32 s3,.u32 s4,.u32 s5,.u32 s6,.u32 s7]))])=some (.fin (.exit 4) 1 [] [(0,some (.var [.u32 (h0+s0),.u32 (h1+s1),.u32 (h2+s2),.u32 (h3+s3),.u32 (h4+s4),.u32 (h5+s5),.u32 (h6+s6),.u32 (h7+s7)]))]):=by
 refine BQ ?_
 refine BQ ?_
 refine BQ ?_
 refine BQ ?_
 refine BQ ?_
 refine BQ ?_
 refine BQ ?_
 refine BQ ?_
 refine BQ ?_
 simp only[Ib]
theorem A2t(hb:b.length=64):Y E0 (.call 213 [.pa 0 0,.sl .u8 b] [.var [.u32 h0,.u32 h1,.u32 h2,.u32 h3,.u32 h4,.u32 h5,.u32 h6,.u32 h7]])=some (.ret (.tup []) [some (.var ((List.range 8).map fun i=>.u32 ((Eh [h0,h1,h2,h3,h4,h5,h6,h7] b).getD i 0)))]):=by
 rw[wK]
 refine BQ ?_
 rw[A0i (hb:=DZ) ..]
 refine BQ ?_
 ((conv in(close _ _ _ _)=>skip);rw[Cf (Nz b 64)])
 refine BQ ?_
 (erw[A0k (Ep b 64) (Nz b 64)])
 refine BQ ?_
 ((conv in(close _ _ _ _)=>skip);rw[Cf (QQ (Ep b 64) 64 0 [h0,h1,h2,h3,h4,h5,h6,h7] rfl)])
 refine BQ ?_
 rw[A2s ..]
 refine BQ ?_
 rfl
end
section
attribute [local irreducible] Cj Dt D9 DT DK BH Du Ey Fh FD Et D7 CV Df DX and' Dk DU CG Ba Bl CJ CS BK BM BB BG Dv G7 Dw EM Dl Bh CO Bz C9 Bo BD Bi BO Be BZ Dx Bf DL Bd BI D6 Dy fits Dz Dn AZ Ap BL
attribute [local irreducible] FU
theorem nx1(hs:ws.take t=KR b t)(h:16<=t):
  fH (Ba .xor (Ba .xor (Ba .xor (ws.getD (0+((t:Int)-3).toNat*1) 0) (ws.getD (0+((t:Int)-8).toNat*1) 0)) (ws.getD (0+((t:Int)-14).toNat*1) 0)) (ws.getD (0+((t:Int)-16).toNat*1) 0)) 1=X4 b (KR b t) t:=by
 rw[show 0+((t:Int)-3).toNat*1=t-3 from by omega,show 0+((t:Int)-8).toNat*1=t-8 from by omega,show 0+((t:Int)-14).toNat*1=t-14 from by omega,show 0+((t:Int)-16).toNat*1=t-16 from by omega]
 rw[X4,if_neg zaa,Mc hs (show t-3<t by omega),Mc hs (show t-8<t by omega),Mc hs (show t-14<t by omega),Mc hs (show t-16<t by omega)]
 simp only[Gh]
theorem A3R(b:List UInt8)(h0 h1 h2 h3 h4:UInt32)(hb:b.length=64):∀(k t:Nat) (ws:List UInt32),t+k=80->ws.length=80->ws.take t=KR b t ->
  Y E0 (.loop 211 0 1 2 [(0,AV.pa 0 0),(1,AV.sl Ty.u8 b),(4,AV.pa 1 0),(14,AV.i t)] [(0,some (.var [.u32 h0,.u32 h1,.u32 h2,.u32 h3,.u32 h4])),(1,some (Rs.var (FU ws)))])=some (.fin (.exit 0) 2 [(0,AV.pa 0 0),(4,AV.pa 1 0)] [(0,some (.var [.u32 h0,.u32 h1,.u32 h2,.u32 h3,.u32 h4])),(1,some (Rs.var (FU (KR b 80))))])
 | 0,t,ws,hk,hw,hs=>by
  have e:ws=KR b 80:=zbi
  rw[<-e]
  rw[Ae];conv=>lhs;whnf
  rw[A0N hw (show 80<=t by omega)]
  refine BQ ?_
  rfl
 | k+1,t,ws,hk,hw,hs=>by
  have ih:=fun x (hx:x=X4 b (KR b t) t)=>A3R b h0 h1 h2 h3 h4 hb k (t+1) (ws.set t x) zaa (by simpa using hw) zbo
  rw[Ae];conv=>lhs;whnf
  refine BQ ?_
  rcases AY (↑t) 16 with hc0|hc0
  ·
   refine BQ ?_
   rw[tJ _ _ DZ DZ]
   conv=>lhs;whnf
   try dsimp -iota -beta -eta -zeta only
   rw[Gj zaa]
   conv=>lhs;whnf
   rw[ET zaa]
   conv=>lhs;whnf
   try dsimp -iota -beta -eta -zeta only
   rw[JS zaa];conv=>lhs;whnf
   rw[Kr zaa]
   refine BQ ?_
   rw[Ik hw]
   refine BQ ?_
   rw[show((t:Int)+1)=((t+1:Nat):Int) from by omega,show 0+((t:Nat):Int).toNat*1=t from by omega];refine(congrArg (Y E0) ?_).trans (ih (be32 b (4*t)) (by rw[X4,if_pos zaa]));rw[Ik hw];rfl
  refine BQ ?_
  rw[Dh zaa]
  refine BQ ?_
  rw[Dh zaa]
  refine BQ ?_
  rw[Dh zaa]
  refine BQ ?_
  rw[Dh zaa]
  refine BQ ?_
  rw[A2i _]
  conv=>lhs;whnf
  try dsimp -iota -beta -eta -zeta only
  rw[Gj zaa]
  conv=>lhs;whnf
  rw[ET zaa]
  conv=>lhs;whnf
  try dsimp -iota -beta -eta -zeta only
  rw[JS zaa];conv=>lhs;whnf
  rw[Kr zaa]
  conv=>lhs;whnf
  try dsimp -iota -beta -eta -zeta only
  rw[Ik hw]
  refine BQ ?_
  rw[show((t:Int)+1)=((t+1:Nat):Int) from by omega,show 0+((t:Nat):Int).toNat*1=t from by omega];refine(congrArg (Y E0) ?_).trans (ih _ (nx1 b ws t hs zaa));rw[Ik hw];rfl
theorem A4Y(hb:b.length=64):Y E0 (.loop 211 0 1 2 [(0,AV.pa 0 0),(1,AV.sl Ty.u8 b),(4,AV.pa 1 0),(14,AV.i 0)] [(0,some (.var [.u32 h0,.u32 h1,.u32 h2,.u32 h3,.u32 h4])),(1,some (Rs.var (List.replicate 80 (.u32 0))))])=some (.fin (.exit 0) 2 [(0,AV.pa 0 0),(4,AV.pa 1 0)] [(0,some (.var [.u32 h0,.u32 h1,.u32 h2,.u32 h3,.u32 h4])),(1,some (Rs.var (FU (KR b 80))))]):=by
 have e:=A3R b h0 h1 h2 h3 h4 hb 80 0 (List.replicate 80 0) rfl rfl rfl
 rw[Cf (ws:=List.replicate 80 0) (n:=80) rfl] at e
 exact e
end
section
attribute [local irreducible] Cj Dt D9 DT DK BH Du Ey Fh FD Et D7 CV Df DX and' Dk DU CG Ba Bl CJ CS BK BM BB BG Dv G7 Dw EM Dl Bh CO Bz C9 Bo BD Bi BO Be BZ Dx Bf DL Bd BI D6 Dy fits Dz Dn AZ Ap BL
attribute [local irreducible] FU Dp Sm
theorem A5T(hw:ws.length=80)(h0 h1 h2 h3 h4:UInt32){G:S5->Option Rsp}(t:Nat)(a b c d e f q:UInt32)(ht:t<80)(hr:∀ s:S5,Y E0 (.loop 211 1 1 2 [(0,.pa 0 0),(4,.pa 1 0),(6,.u32 s.a),(7,.u32 s.b),(8,.u32 s.c),(9,.u32 s.d),(10,.u32 s.e),(67,.i (t+1:Nat))] [(0,some (.var [.u32 h0,.u32 h1,.u32 h2,.u32 h3,.u32 h4])),(1,some (.var (FU ws)))])=G s)(hf:f=f1 t b c d)(hq:q=k1 t):Y E0 (.drw ⟨165,211,1⟩ [true,true,true,false,true,false,false,true,true,false,false,true,true,true] 0 [] [.blk 3,.seq [true,true,true,false,true,false,false,true,true,true] 2,.lup 1] 2 [(0,.pa 0 0),(4,.pa 1 0),(6,.u32 a),(7,.u32 b),(8,.u32 c),(9,.u32 d),(10,.u32 e),(11,.i t),(12,.u32 f),(13,.u32 q),(67,.i t)] [(0,some (.var [.u32 h0,.u32 h1,.u32 h2,.u32 h3,.u32 h4])),(1,some (.var (FU ws)))])=G (Sm t (ws.getD t 0) ⟨a,b,c,d,e⟩):=by
 rw[tV t _ a b c d e f q hf hq]
 rw[Ae];conv=>lhs;whnf
 refine BQ ?_
 rw[A2j _]
 refine BQ ?_
 rw[Dh zaa]
 refine BQ ?_
 rw[A0g _]
 refine BQ ?_
 ((conv in(close _ _ _ _)=>skip);rw[Cf hw])
 refine BQ ?_
 rw[show((t:Int)+1)=((t+1:Nat):Int) from by omega];simp only[Ib,show 0+(t:Int).toNat*1=t from by omega];exact(congrArg (Y E0) za2).trans (hr ⟨_,_,_,_,_⟩)
theorem A3S(ws:List UInt32)(hw:ws.length=80)(h0 h1 h2 h3 h4:UInt32):∀(k t:Nat) (s:S5),t+k=80->Y E0 (.loop 211 1 1 2 [(0,.pa 0 0),(4,.pa 1 0),(6,.u32 s.a),(7,.u32 s.b),(8,.u32 s.c),(9,.u32 s.d),(10,.u32 s.e),(67,.i t)] [(0,some (.var [.u32 h0,.u32 h1,.u32 h2,.u32 h3,.u32 h4])),(1,some (.var (FU ws)))])=some (.fin (.exit 2) 1 [(0,.pa 0 0),(6,.u32 (Dp ws k t s).a),(7,.u32 (Dp ws k t s).b),(8,.u32 (Dp ws k t s).c),(9,.u32 (Dp ws k t s).d),(10,.u32 (Dp ws k t s).e)] [(0,some (.var [.u32 h0,.u32 h1,.u32 h2,.u32 h3,.u32 h4]))])
 | 0,t,s,hk=>by
  rw[Ae];conv=>lhs;whnf
  refine BQ ?_
  unfold Dp;rfl
 | k+1,t,⟨a,b,c,d,e⟩,hk=>by
  have ih:=fun f q=>A5T ws hw h0 h1 h2 h3 h4 t a b c d e f q zaa (fun s=>A3S ws hw h0 h1 h2 h3 h4 k (t+1) s zaa)
  rw[show Dp ws (k+1) t ⟨a,b,c,d,e⟩=Dp ws k (t+1) (Sm t (ws.getD t 0) ⟨a,b,c,d,e⟩) from by rw[Dp]]
  rw[Ae];conv=>lhs;whnf
  refine BQ ?_
  rcases AL (↑t/20) 0 with hc0|hc0
  ·
   refine BQ ?_
   ((conv in(close _ _ _ _)=>skip);rw[Cf hw])
   conv=>lhs;whnf
   exact(congrArg (Y E0) za2).trans (ih _ _ zaj zai)
  refine BQ ?_
  rcases AL (↑t/20) 1 with hc1|hc1
  ·
   refine BQ ?_
   ((conv in(close _ _ _ _)=>skip);rw[Cf hw])
   conv=>lhs;whnf
   exact(congrArg (Y E0) za2).trans (ih _ _ zaj zai)
  refine BQ ?_
  rcases AL (↑t/20) 2 with hc2|hc2
  ·
   refine BQ ?_
   ((conv in(close _ _ _ _)=>skip);rw[Cf hw])
   conv=>lhs;whnf
   exact(congrArg (Y E0) za2).trans (ih _ _ zaj zai)
  refine BQ ?_
  ((conv in(close _ _ _ _)=>skip);rw[Cf hw])
  conv=>lhs;whnf
  exact(congrArg (Y E0) za2).trans (ih _ _ zaj zai)
end
section
attribute [local irreducible] Cj Dt D9 DT DK BH Du Ey Fh FD Et D7 CV Df DX and' Dk DU CG Ba Bl CJ CS BK BM BB BG Dv G7 Dw EM Dl Bh CO Bz C9 Bo BD Bi BO Be BZ Dx Bf DL Bd BI D6 Dy fits Dz Dn AZ Ap BL
attribute [local irreducible] FU Dp Sm
theorem A4Z(hw:ws.length=80)(h0 h1 h2 h3 h4:UInt32):Y E0 (.loop 211 1 1 2 [(0,.pa 0 0),(4,.pa 1 0),(6,.u32 h0),(7,.u32 h1),(8,.u32 h2),(9,.u32 h3),(10,.u32 h4),(67,.i 0)] [(0,some (.var [.u32 h0,.u32 h1,.u32 h2,.u32 h3,.u32 h4])),(1,some (.var ((List.range 80).map fun i=>.u32 (ws.getD i 0))))])=some (.fin (.exit 2) 1 [(0,.pa 0 0),(6,.u32 (Dp ws 80 0 ⟨h0,h1,h2,h3,h4⟩).a),(7,.u32 (Dp ws 80 0 ⟨h0,h1,h2,h3,h4⟩).b),(8,.u32 (Dp ws 80 0 ⟨h0,h1,h2,h3,h4⟩).c),(9,.u32 (Dp ws 80 0 ⟨h0,h1,h2,h3,h4⟩).d),(10,.u32 (Dp ws 80 0 ⟨h0,h1,h2,h3,h4⟩).e)] [(0,some (.var [.u32 h0,.u32 h1,.u32 h2,.u32 h3,.u32 h4]))]):=by
 have e:=A3S ws hw h0 h1 h2 h3 h4 80 0 ⟨h0,h1,h2,h3,h4⟩ rfl
 rw[Cf hw] at e
 exact e
theorem A5U(hb:b.length=64):Y E0 (.call 211 [.pa 0 0,.sl .u8 b] [.var [.u32 h0,.u32 h1,.u32 h2,.u32 h3,.u32 h4]])=some (.ret (.tup []) [some (.var ((List.range 5).map fun i=>.u32 ((KU [h0,h1,h2,h3,h4] b).getD i 0)))]):=by
 rw[tX]
 refine BQ ?_
 (erw[A4Y b _ _ _ _ _ hb])
 refine BQ ?_
 ((conv in(close _ _ _ _)=>skip);rw[Cf (Sj b 80)])
 refine BQ ?_
 (erw[A4Z (KR b 80) (Sj b 80)])
 refine BQ ?_
 simp only[Ib];rfl
end
section
attribute [local irreducible] Cj Dt D9 DT DK BH Du Ey Fh FD Et D7 CV Df DX and' Dk DU CG Ba Bl CJ CS BK BM BB BG Dv G7 Dw EM Dl Bh CO Bz C9 Bo BD Bi BO Be BZ Dx Bf DL Bd BI D6 Dy fits Dz Dn AZ Ap BL
attribute [local irreducible] wb IE
theorem Vo(ws:List UInt32)(h:ws.length<=1000):∀(k j:Nat) (acc:List UInt8),j+k=ws.length->acc.length<=4*j->Y E0 (.loop 212 0 0 1 [(3,.nm 0),(10,.sl .u32 ws),(11,.i (Be ws)),(12,.i j)] [(0,some (.row 5 .u8 acc))])=some (.fin (.exit 0) 0 [(3,.sl .u8 (acc++IE (ws.drop j)))] [])
 | 0,j,acc,hj,ha=>by
  rw[Ae];conv=>lhs;whnf
  refine BQ ?_
  rw[List.drop_of_length_le zaa];unfold IE;simp
 | k+1,j,acc,hj,ha=>by
  have ih:=Vo ws h k (j+1) (BI acc (wb (ws.getD j 0))) zaa (by rw[Aa,List.length_append];unfold wb;simp;omega)
  rw[Ae];conv=>lhs;whnf
  refine toA ?_
  rw[PR zaa]
  refine BQ ?_
  refine(congrArg (Y E0) zbf).trans (ih.trans (by rw[U0 (j:=j) zaa,Aa,List.append_assoc]))
theorem Zb(h:ws.length<=1000)(h0:0<ws.length):Y E0 (.call 212 [.sl .u32 ws] [])=some (.ret (.sl .u8 (IE ws)) []):=by
 have e:=Vo ws h ws.length 0 [] zaa zao
 refine BQ ?_
 (erw[e])
 refine BQ ?_
 rfl
theorem Xw(ws:List UInt32)(h:ws.length<=1000):∀(k j:Nat) (acc:List UInt8),j+k=ws.length->acc.length<=4*j->Y E0 (.loop 229 0 0 1 [(0,.sl .u32 ws),(3,.nm 0),(4,.i j)] [(0,some (.row 5 .u8 acc))])=some (.fin (.exit 0) 0 [(3,.sl .u8 (acc++IE (ws.drop j)))] [])
 | 0,j,acc,hj,ha=>by
  rw[Ae];conv=>lhs;whnf
  refine BQ ?_
  rw[List.drop_of_length_le zaa];unfold IE;simp
 | k+1,j,acc,hj,ha=>by
  have ih:=Xw ws h k (j+1) (BI acc (wb (ws.getD j 0))) zaa (by rw[Aa,List.length_append];unfold wb;simp;omega)
  rw[Ae];conv=>lhs;whnf
  refine toA ?_
  rw[PR zaa]
  refine toA ?_
  rw[PR zaa]
  refine toA ?_
  rw[PR zaa]
  refine toA ?_
  rw[PR zaa]
  refine BQ ?_
  refine(congrArg (Y E0) zbf).trans (ih.trans (by rw[U0 (j:=j) zaa,Aa,List.append_assoc]))
theorem ik(h:ws.length<=1000):Y E0 (.call 229 [.sl .u32 ws] [])=some (.ret (.sl .u8 (IE ws)) []):=by
 have e:=Xw ws h ws.length 0 [] zaa zao
 refine BQ ?_
 (erw[e])
 refine BQ ?_
 rfl
end
section
attribute [local irreducible] Cj Dt D9 DT DK BH Du Ey Fh FD Et D7 CV Df DX and' Dk DU CG Ba Bl CJ CS BK BM BB BG Dv G7 Dw EM Dl Bh CO Bz C9 Bo BD Bi BO Be BZ Dx Bf DL Bd BI D6 Dy fits Dz Dn AZ Ap BL
theorem iw(l:List UInt8):∀(k:Nat) (x:List UInt8),k<64->(x.length+k)%64=56->x.length+k<=8589934592->Y E0 (.loop 210 0 0 1 [(0,.sl .u8 l),(3,.nm 0)] [(0,some (.row 5 .u8 x))])=some (.fin (.exit 0) 1 [(0,.sl .u8 l),(3,.nm 0)] [(0,some (.row 5 .u8 (x++List.replicate k 0)))])
 | 0,x,h,hm,hx=>by
  rw[Ae];conv=>lhs;whnf
  refine BQ ?_
  simp
 | k+1,x,h,hm,hx=>by
  have ih:=iw l k (BI x [UInt8.ofNat 0]) zaa (by rw[Aa,List.length_append,<-hm];simp;omega) (by rw[Aa,List.length_append];simp;omega)
  rw[Ae];conv=>lhs;whnf
  refine BQ ?_
  exact ih.trans (by rw[Aa,List.append_assoc];rfl)
theorem A0m(x:List UInt8)(n:UInt64)(hx:x.length<=8589934592):Y E0 (.loop 210 1 0 1 [(3,.nm 0),(4,.u64 n),(5,.i 56)] [(0,some (.row 5 .u8 x))])=some (.fin (.exit 2) 0 [(3,.sl .u8 (x++A1z n))] []):=by
 refine BQ ?_
 refine BQ ?_
 refine BQ ?_
 refine BQ ?_
 refine BQ ?_
 refine BQ ?_
 refine BQ ?_
 refine BQ ?_
 refine BQ ?_
 rw[iq n _ 56 zaa,iq n _ 48 zaa,iq n _ 40 zaa,iq n _ 32 zaa,iq n _ 24 zaa,iq n _ 16 zaa,iq n _ 8 zaa,iq n _ 0 zaa];simp only[Aa,List.append_assoc];rfl
theorem A0n(h:l.length<=4294967296):Y E0 (.call 210 [.sl .u8 l] [])=some (.ret (.sl .u8 (MQ l)) []):=by
 have e:=iw l (zerosN l.length) (BI (BI [] l) [UInt8.ofNat 128]) (by unfold zerosN;omega) zaM zaM
 have f:=fun n=>A0m (BI (BI [] l) [UInt8.ofNat 128]++List.replicate (zerosN l.length) 0) n zaM
 refine BQ ?_
 rw[e]
 refine BQ ?_
 (rw[f])
 refine BQ ?_
 simp only[Aa,BF,A0l,MQ];rfl
theorem Zc(l:List UInt8):∀(k:Nat) (x:List UInt8),k<64->(x.length+k)%64=56->x.length+k<=8589934592->Y E0 (.loop 226 0 0 1 [(0,.sl .u8 l),(3,.nm 0)] [(0,some (.row 5 .u8 x))])=some (.fin (.exit 0) 1 [(0,.sl .u8 l),(3,.nm 0)] [(0,some (.row 5 .u8 (x++List.replicate k 0)))])
 | 0,x,h,hm,hx=>by
  rw[Ae];conv=>lhs;whnf
  refine BQ ?_
  simp
 | k+1,x,h,hm,hx=>by
  have ih:=Zc l k (BI x [UInt8.ofNat 0]) zaa (by rw[Aa,List.length_append,<-hm];simp;omega) (by rw[Aa,List.length_append];simp;omega)
  rw[Ae];conv=>lhs;whnf
  refine BQ ?_
  exact ih.trans (by rw[Aa,List.append_assoc];rfl)
theorem wL(x:List UInt8)(n:UInt64)(hx:x.length<=8589934592):Y E0 (.loop 226 1 0 1 [(3,.nm 0),(4,.u64 n),(5,.i 7)] [(0,some (.row 5 .u8 x))])=some (.fin (.exit 2) 0 [(3,.sl .u8 (x++A1z n))] []):=by
 refine BQ ?_
 refine BQ ?_
 refine BQ ?_
 refine BQ ?_
 refine BQ ?_
 refine BQ ?_
 refine BQ ?_
 refine BQ ?_
 refine BQ ?_
 rw[Vp n _ 56 zbj zal,Vp n _ 48 zbj zal,Vp n _ 40 zbj zal,Vp n _ 32 zbj zal,Vp n _ 24 zbj zal,Vp n _ 16 zbj zal,Vp n _ 8 zbj zal,Vp n _ 0 zbj zal];simp only[Aa,List.append_assoc];rfl
theorem tY(h:l.length<=4294967296):Y E0 (.call 226 [.sl .u8 l] [])=some (.ret (.sl .u8 (MQ l)) []):=by
 have e:=Zc l (zerosN l.length) (BI (BI [] l) [UInt8.ofNat 128]) (by unfold zerosN;omega) zaM zaM
 have f:=fun n=>wL (BI (BI [] l) [UInt8.ofNat 128]++List.replicate (zerosN l.length) 0) n zaM
 refine BQ ?_
 rw[e]
 refine BQ ?_
 (rw[f])
 refine BQ ?_
 simp only[Aa,BF,A0l,MQ];rfl
end
section
attribute [local irreducible] Cj Dt D9 DT DK BH Du Ey Fh FD Et D7 CV Df DX and' Dk DU CG Ba Bl CJ CS BK BM BB BG Dv G7 Dw EM Dl Bh CO Bz C9 Bo BD Bi BO Be BZ Dx Bf DL Bd BI D6 Dy fits Dz Dn AZ Ap BL
attribute [local irreducible] KU Eh GX
theorem Zd:∀(n:Nat) (p:List UInt8) (h0 h1 h2 h3 h4:UInt32),p.length=64*n->p.length<=8589934592->Y E0 (.loop 159 0 0 1 [(5,.pa 0 0),(6,.sl .u8 p)] [(0,some (.var [.u32 h0,.u32 h1,.u32 h2,.u32 h3,.u32 h4]))])=some (.fin (.exit 1) 1 [(5,.pa 0 0)] [(0,some (.var ((List.range 5).map fun i=>.u32 ((GX KU n [h0,h1,h2,h3,h4] p).getD i 0))))])
 | 0,p,h0,h1,h2,h3,h4,hp,hq=>by
  rw[Ae];conv=>lhs;whnf
  refine BQ ?_
  unfold GX;rfl
 | n+1,p,h0,h1,h2,h3,h4,hp,hq=>by
  have ih:=Zd n (p.drop 64) ((KU [h0,h1,h2,h3,h4] (p.take 64)).getD 0 0) ((KU [h0,h1,h2,h3,h4] (p.take 64)).getD 1 0) ((KU [h0,h1,h2,h3,h4] (p.take 64)).getD 2 0) ((KU [h0,h1,h2,h3,h4] (p.take 64)).getD 3 0) ((KU [h0,h1,h2,h3,h4] (p.take 64)).getD 4 0) zaO zaO
  rw[A5V (Q5 _ _)] at ih
  rw[Ae];conv=>lhs;whnf
  refine BQ ?_
  rw[A5U (hb:=DZ) ..]
  refine BQ ?_
  rw[A3U zaa];exact ih.trans (by rw[GX])
theorem Ze:∀(n:Nat) (p:List UInt8) (h0 h1 h2 h3 h4 h5 h6 h7:UInt32),p.length=64*n->p.length<=8589934592->Y E0 (.loop 159 1 0 1 [(7,.pa 0 0),(8,.sl .u8 p)] [(0,some (.var [.u32 h0,.u32 h1,.u32 h2,.u32 h3,.u32 h4,.u32 h5,.u32 h6,.u32 h7]))])=some (.fin (.exit 3) 1 [(7,.pa 0 0)] [(0,some (.var ((List.range 8).map fun i=>.u32 ((GX Eh n [h0,h1,h2,h3,h4,h5,h6,h7] p).getD i 0))))])
 | 0,p,h0,h1,h2,h3,h4,h5,h6,h7,hp,hq=>by
  rw[Ae];conv=>lhs;whnf
  refine BQ ?_
  unfold GX;rfl
 | n+1,p,h0,h1,h2,h3,h4,h5,h6,h7,hp,hq=>by
  have ih:=Ze n (p.drop 64) ((Eh [h0,h1,h2,h3,h4,h5,h6,h7] (p.take 64)).getD 0 0) ((Eh [h0,h1,h2,h3,h4,h5,h6,h7] (p.take 64)).getD 1 0) ((Eh [h0,h1,h2,h3,h4,h5,h6,h7] (p.take 64)).getD 2 0) ((Eh [h0,h1,h2,h3,h4,h5,h6,h7] (p.take 64)).getD 3 0) ((Eh [h0,h1,h2,h3,h4,h5,h6,h7] (p.take 64)).getD 4 0) ((Eh [h0,h1,h2,h3,h4,h5,h6,h7] (p.take 64)).getD 5 0) ((Eh [h0,h1,h2,h3,h4,h5,h6,h7] (p.take 64)).getD 6 0) ((Eh [h0,h1,h2,h3,h4,h5,h6,h7] (p.take 64)).getD 7 0) zaO zaO
  rw[A4a (KW _ _ rfl)] at ih
  rw[Ae];conv=>lhs;whnf
  refine BQ ?_
  rw[A2t (hb:=DZ) ..]
  refine BQ ?_
  rw[A3U zaa];exact ih.trans (by rw[GX])
theorem wM(alg:Int)(l:List UInt8)(hl:l.length<=4294967296):Y E0 (.call 159 [.i alg,.sl .u8 l] [])=some (.ret (.sl .u8 (A53 alg l)) []):=by
 have hp:=X3 l
 have e0:=Zd ((MQ l).length/64) (MQ l) 1732584193 4023233417 2562383102 271733878 3285377520 zaa zaa
 have e1:=Ze ((MQ l).length/64) (MQ l) 1779033703 3144134277 1013904242 2773480762 1359893119 2600822924 528734635 1541459225 zaa zaa
 refine BQ ?_
 rcases AL alg 0 with hc0|hc0
 ·
  subst hc0
  refine BQ ?_
  rw[A0n _ DZ]
  refine BQ ?_
  (erw[e0])
  refine BQ ?_
  rw[Zb _ DZ DZ]
  refine BQ ?_
  rw[A5V (Jn (m:=5) (fun h b _=>Q5 h b) _ _ _ rfl)];rfl
 refine BQ ?_
 rcases AL alg 1 with hc1|hc1
 ·
  subst hc1
  refine BQ ?_
  rw[A0n _ DZ]
  refine BQ ?_
  (erw[e1])
  refine BQ ?_
  rw[Zb _ DZ DZ]
  refine BQ ?_
  rw[A4a (Jn (m:=8) KW _ _ _ rfl)];rfl
 refine BQ ?_
 rw[A53,if_neg hc0,if_neg hc1]
end
section
attribute [local irreducible] Cj Dt D9 DT DK BH Du Ey Fh FD Et D7 CV Df DX and' Dk DU CG Ba Bl CJ CS BK BM BB BG Dv G7 Dw EM Dl Bh CO Bz C9 Bo BD Bi BO Be BZ Dx Bf DL Bd BI D6 Dy fits Dz Dn AZ Ap BL
attribute [local irreducible] KU Eh GX FU JB Hy Dp Sm
theorem A3V(h:List UInt32)(p b:List UInt8)(a:Nat)(ha:a+64<=p.length)(hp:p.length<=8589934592)(hb:b=List.take ((a:Int)+64-a).toNat (List.drop (a:Int).toNat p)):∀(k t:Nat) (ws:List UInt32),t+k=64->ws.length=64->ws.take t=Ep b t->Y E0 (.loop 176 1 0 3 [(3,.pa 0 0),(4,.nm 1),(5,.sl .u8 p),(6,.i a),(7,.pa 2 0),(8,.i t)] [(0,some (.var (FU JB))),(1,some (.row 134 .u32 h)),(2,some (.var (FU ws)))])=some (.fin (.exit 2) 3 [(3,.pa 0 0),(4,.nm 1),(5,.sl .u8 p),(6,.i a),(7,.pa 2 0)] [(0,some (.var (FU JB))),(1,some (.row 134 .u32 h)),(2,some (.var (FU (Ep b 64))))])
 | 0,t,ws,hk,hw,hs=>by
  have e:ws=Ep b 64:=zbh
  rw[<-e]
  rw[Ae];conv=>lhs;whnf
  refine BQ ?_
  ((conv in(close _ _ _ _)=>skip);conv=>lhs;rw[Cf H7,Cf hw])
  refine BQ ?_
  rw[Cf hw,Cf H7];rfl
 | k+1,t,ws,hk,hw,hs=>by
  have ih:=fun x (hx:x=Ny b (Ep b t) t)=>A3V h p b a ha hp hb k (t+1) (ws.set t x) zaa (by simpa using hw) zbo
  rw[Ae];conv=>lhs;whnf
  refine BQ ?_
  rcases AY (↑t) 16 with hc0|hc0
  ·
   refine BQ ?_
   rw[iZ _ _ DZ DZ]
   conv=>lhs;whnf
   try dsimp -iota -beta -eta -zeta only
   rw[Gj zaa]
   conv=>lhs;whnf
   rw[ET zaa]
   conv=>lhs;whnf
   try dsimp -iota -beta -eta -zeta only
   rw[JS zaa];conv=>lhs;whnf
   rw[Kr zaa]
   refine BQ ?_
   ((conv in(close _ _ _ _)=>skip);conv=>lhs;rw[Cf H7,Ik hw])
   refine BQ ?_
   rw[show((t:Int)+1)=((t+1:Nat):Int) from by omega,show 0+((t:Nat):Int).toNat*1=t from by omega,<-hb];refine(congrArg (Y E0) ?_).trans (ih (be32 b (4*t)) (by rw[Ny,if_pos zaa]));rw[Ik hw,Cf H7];rfl
  refine BQ ?_
  rw[Dh zaa]
  refine BQ ?_
  rw[A4T _]
  refine BQ ?_
  rw[Dh zaa]
  refine BQ ?_
  rw[A2k _]
  refine BQ ?_
  rw[Dh zaa]
  refine BQ ?_
  rw[Dh zaa]
  refine BQ ?_
  rw[A2l _]
  refine BQ ?_
  rw[Dh zaa]
  refine BQ ?_
  rw[A2m _]
  refine BQ ?_
  rw[Dh zaa]
  refine BQ ?_
  rw[Dh zaa]
  refine BQ ?_
  rw[Dh zaa]
  conv=>lhs;whnf
  try dsimp -iota -beta -eta -zeta only
  rw[Gj zaa]
  conv=>lhs;whnf
  rw[ET zaa]
  conv=>lhs;whnf
  try dsimp -iota -beta -eta -zeta only
  rw[JS zaa];conv=>lhs;whnf
  rw[Kr zaa]
  refine BQ ?_
  ((conv in(close _ _ _ _)=>skip);conv=>lhs;rw[Cf H7,Ik hw])
  refine BQ ?_
  rw[show((t:Int)+1)=((t+1:Nat):Int) from by omega,show 0+((t:Nat):Int).toNat*1=t from by omega];refine(congrArg (Y E0) ?_).trans (ih _ (A3Q b ws t hs zaa));rw[Ik hw,Cf H7];rfl
end
section
attribute [local irreducible] Cj Dt D9 DT DK BH Du Ey Fh FD Et D7 CV Df DX and' Dk DU CG Ba Bl CJ CS BK BM BB BG Dv G7 Dw EM Dl Bh CO Bz C9 Bo BD Bi BO Be BZ Dx Bf DL Bd BI D6 Dy fits Dz Dn AZ Ap BL
attribute [local irreducible] KU Eh GX FU JB Hy Dp Sm
theorem A4b(b:List UInt8)(a:Nat)(ha:a+64<=p.length)(hp:p.length<=8589934592)(hb:b=List.take ((a:Int)+64-a).toNat (List.drop (a:Int).toNat p)):Y E0 (.loop 176 1 0 3 [(3,.pa 0 0),(4,.nm 1),(5,.sl .u8 p),(6,.i a),(7,.pa 2 0),(8,.i 0)] [(0,some (.var ((List.range 64).map fun i=>AV.u32 (JB.getD i 0)))),(1,some (.row 134 .u32 h)),(2,some (.var (List.replicate 64 (.u32 0))))])=some (.fin (.exit 2) 3 [(3,.pa 0 0),(4,.nm 1),(5,.sl .u8 p),(6,.i a),(7,.pa 2 0)] [(0,some (.var ((List.range 64).map fun i=>AV.u32 (JB.getD i 0)))),(1,some (.row 134 .u32 h)),(2,some (.var ((List.range 64).map fun i=>AV.u32 ((Ep b 64).getD i 0))))]):=by
 have e:=A3V h p b a ha hp hb 64 0 (List.replicate 64 0) rfl rfl rfl
 rw[Cf (ws:=List.replicate 64 0) (n:=64) rfl,Cf H7,Cf (Nz b 64)] at e
 exact e
theorem A3Y(h:List UInt32)(p:List UInt8)(a:Nat)(ws:List UInt32)(hw:ws.length=64):∀(k t:Nat) (a0 a1 a2 a3 a4 a5 a6 a7:UInt32),t+k=64->Y E0 (.loop 176 2 0 3 [(3,.pa 0 0),(4,.nm 1),(5,.sl .u8 p),(6,.i a),(7,.pa 2 0),(11,.sl .u32 [a0,a1,a2,a3,a4,a5,a6,a7]),(12,.i t)] [(0,some (.var (FU JB))),(1,some (.row 134 .u32 h)),(2,some (.var (FU ws)))])=some (.fin (.exit 4) 2 [(3,.pa 0 0),(4,.nm 1),(5,.sl .u8 p),(6,.i a),(11,.sl .u32 (Hy ws k t [a0,a1,a2,a3,a4,a5,a6,a7]))] [(0,some (.var (FU JB))),(1,some (.row 134 .u32 h))])
 | 0,t,a0,a1,a2,a3,a4,a5,a6,a7,hk=>by
  rw[Ae];conv=>lhs;whnf
  refine BQ ?_
  ((conv in(close _ _ _ _)=>skip);conv=>lhs;rw[Cf H7,Cf hw])
  refine BQ ?_
  rw[Cf H7];unfold Hy;rfl
 | k+1,t,a0,a1,a2,a3,a4,a5,a6,a7,hk=>by
  have ih:=fun s0 s1 s2 s3 s4 s5 s6 s7=>A3Y h p a ws hw k (t+1) s0 s1 s2 s3 s4 s5 s6 s7 zaa
  rw[Ae];conv=>lhs;whnf
  refine BQ ?_
  rw[A5W]
  refine BQ ?_
  rw[A5Y]
  refine BQ ?_
  rw[A5Z]
  refine BQ ?_
  rw[A4U _]
  refine BQ ?_
  rw[A2n _]
  refine BQ ?_
  rw[A2o _]
  refine BQ ?_
  rw[A3W]
  refine BQ ?_
  rw[A3X]
  refine BQ ?_
  rw[Dh (ws:=JB) (by rw[H7];omega)]
  refine BQ ?_
  rw[Dh (ws:=ws) zaa]
  refine BQ ?_
  rw[A4V _]
  refine BQ ?_
  rw[A2p _]
  refine BQ ?_
  rw[A2q _]
  refine BQ ?_
  rw[A0o]
  refine BQ ?_
  rw[A0p]
  refine BQ ?_
  rw[A0o]
  refine BQ ?_
  rw[A0p]
  refine BQ ?_
  rw[A0o]
  refine BQ ?_
  rw[A0p]
  refine BQ ?_
  rw[A5X]
  refine BQ ?_
  rw[A3W]
  refine BQ ?_
  rw[A3X]
  refine BQ ?_
  ((conv in(XZ _ _)=>skip);conv=>lhs;rw[Cf H7,Cf hw])
  refine BQ ?_
  rw[show((t:Int)+1)=((t+1:Nat):Int) from by omega];refine((congrArg (Y E0) (by rw[Cf hw,Cf H7];rfl)).trans (ih _ _ _ _ _ _ _ _)).trans ?_;simp only[Ib,Gh,I7,show 0+(t:Int).toNat*1=t from by omega];rw[show Hy ws (k+1) t [a0,a1,a2,a3,a4,a5,a6,a7]=Hy ws k (t+1) (aS (JB.getD t 0) (ws.getD t 0) [a0,a1,a2,a3,a4,a5,a6,a7]) from by rw[Hy]];rfl
end
section
attribute [local irreducible] Cj Dt D9 DT DK BH Du Ey Fh FD Et D7 CV Df DX and' Dk DU CG Ba Bl CJ CS BK BM BB BG Dv G7 Dw EM Dl Bh CO Bz C9 Bo BD Bi BO Be BZ Dx Bf DL Bd BI D6 Dy fits Dz Dn AZ Ap BL
attribute [local irreducible] KU Eh GX FU JB Hy Dp Sm
theorem A4c(hh:h.length=8)(p:List UInt8)(a:Nat)(ws:List UInt32)(hw:ws.length=64):Y E0 (.loop 176 2 0 3 [(3,.pa 0 0),(4,.nm 1),(5,.sl .u8 p),(6,.i a),(7,.pa 2 0),(11,.sl .u32 (BI [] h)),(12,.i 0)] [(0,some (.var ((List.range 64).map fun i=>AV.u32 (JB.getD i 0)))),(1,some (.row 134 .u32 h)),(2,some (.var ((List.range 64).map fun i=>AV.u32 (ws.getD i 0))))])=some (.fin (.exit 4) 2 [(3,.pa 0 0),(4,.nm 1),(5,.sl .u8 p),(6,.i a),(11,.sl .u32 (Hy ws 64 0 h))] [(0,some (.var ((List.range 64).map fun i=>AV.u32 (JB.getD i 0)))),(1,some (.row 134 .u32 h))]):=by
 have e:=A3Y h p a ws hw 64 0 (h.getD 0 0) (h.getD 1 0) (h.getD 2 0) (h.getD 3 0) (h.getD 4 0) (h.getD 5 0) (h.getD 6 0) (h.getD 7 0) rfl
 rw[A4a hh,Cf H7,Cf hw] at e
 rw[Aa]
 exact e
theorem A3Z(h s:List UInt32)(hh:h.length=8)(hs:s.length=8)(p:List UInt8)(a:Nat):∀(k i:Nat),i+k=8->Y E0 (.loop 176 3 0 2 [(3,.pa 0 0),(4,.nm 1),(5,.sl .u8 p),(6,.i a),(11,.sl .u32 s),(17,.i i)] [(0,some (.var ((List.range 64).map fun i=>AV.u32 (JB.getD i 0)))),(1,some (.row 134 .u32 (Si h s i)))])=some (.fin (.exit 6) 2 [(3,.pa 0 0),(4,.nm 1),(5,.sl .u8 p),(6,.i a)] [(0,some (.var ((List.range 64).map fun i=>AV.u32 (JB.getD i 0)))),(1,some (.row 134 .u32 (Si h s 8)))])
 | 0,i,hk=>by
  obtain rfl:i=8:=zaa
  rw[Ae];conv=>lhs;whnf
  refine BQ ?_
  rfl
 | k+1,i,hk=>by
  have ih:=A3Z h s hh hs p a k (i+1) zaa
  have hl:=yM h s i zaa zaa
  rw[Ae];conv=>lhs;whnf
  refine toA ?_
  rw[PR (ws:=Si h s i) zaa,fK h s i zaa zaa]
  refine toA ?_
  rw[PR (ws:=s) zaa]
  refine toA ?_
  rw[PR (ws:=Si h s i) zaa,fK h s i zaa zaa]
  refine BQ ?_
  rw[show((i:Int)+1)=((i+1:Nat):Int) from by omega,G5,Ib,show((i:Nat):Int).toNat=i from by omega,yN h s i zaa zaa];exact ih
theorem wO:Si h (Hy (Ep b 64) 64 0 h) 8=Eh h b:=by
 rw[Eh,show Hy (Ep b 64) 64 0 h=O3 (Ep b 64) h 64 from Xv _ _ 64 0]
theorem A0q(a:Nat):(List.take ((a:Int)+64-a).toNat (List.drop (a:Int).toNat p))=(p.drop a).take 64:=by rw[show((a:Int)+64-a).toNat=64 from by omega,show(a:Int).toNat=a from by omega]
theorem A3a(p:List UInt8)(hp:p.length<=8589934592):∀(n a:Nat) (h:List UInt32),h.length=8->a+64*n=p.length->Y E0 (.loop 176 0 0 2 [(3,.pa 0 0),(4,.nm 1),(5,.sl .u8 p),(6,.i a)] [(0,some (.var ((List.range 64).map fun i=>AV.u32 (JB.getD i 0)))),(1,some (.row 134 .u32 h))])=some (.fin (.exit 0) 0 [(4,.sl .u32 (GX Eh n h (p.drop a)))] [])
 | 0,a,h,hh,hn=>by
  rw[Ae];conv=>lhs;whnf
  refine BQ ?_
  rw[GX]
 | n+1,a,h,hh,hn=>by
  have ih:=A3a p hp n (a+64) (Eh h ((p.drop a).take 64)) (KW _ _ hh) zaa
  have e:=A4b h p _ a zaa hp rfl
  have f:=A4c h hh p a (Ep (List.take ((a:Int)+64-a).toNat (List.drop (a:Int).toNat p)) 64) (Nz _ _)
  have g:=A3Z h _ hh (QQ (Ep (List.take ((a:Int)+64-a).toNat (List.drop (a:Int).toNat p)) 64) 64 0 h hh) p a 8 0 rfl
  rw[Ae];conv=>lhs;whnf
  refine BQ ?_
  (erw[e])
  refine BQ ?_
  (erw[f])
  refine BQ ?_
  (erw[g])
  refine BQ ?_
  rw[wO,A0q,show((a:Int)+64)=((a+64:Nat):Int) from by omega];exact ih.trans (by rw[GX,List.drop_drop])
theorem H8(hl:l.length<=4294967296):Y E0 (.call 176 [.sl .u8 l] [])=some (.ret (.sl .u8 (sha256 l)) []):=by
 have hp:=X3 l
 have e:=A3a (MQ l) zaa ((MQ l).length/64) 0 h256 rfl zaa
 have hf:=Jn (m:=8) KW ((MQ l).length/64) h256 (MQ l) rfl
 refine BQ ?_
 rw[A0h]
 refine BQ ?_
 rw[tY _ DZ]
 refine BQ ?_
 (erw[e])
 refine BQ ?_
 rw[ik _ DZ]
 refine BQ ?_
 rfl
end
end Go.Proofs.YtnhgnfdbdflhcaaGreatDoor
