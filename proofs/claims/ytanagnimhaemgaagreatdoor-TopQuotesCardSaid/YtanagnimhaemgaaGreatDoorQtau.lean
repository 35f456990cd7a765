/-
  Own texts, laid together for this claim: contracts of functions of the program and its references, used by the statements of this seat.
-/
import Derived.Test.YtanagnimhaemgaaGreatDoorQtab
import Derived.Test.YtanagnimhaemgaaGreatDoorQtac
import Derived.Test.YtanagnimhaemgaaGreatDoorQtaf
import Derived.Test.YtanagnimhaemgaaGreatDoorQtag
import Derived.Test.YtanagnimhaemgaaGreatDoorQtah
import Derived.Test.YtanagnimhaemgaaGreatDoorQtai
import Derived.Test.YtanagnimhaemgaaGreatDoorQtaj
import Derived.Test.YtanagnimhaemgaaGreatDoorQtak
set_option linter.all false
set_option maxHeartbeats 40000000
set_option maxRecDepth 100000
namespace Go.Ax
open Go Go.Eng Go.RowKit
def ssI(h:Int)(l:List (El sesT)):Int:=if 768<=h then(match l[(h-768).toNat]? with|some x=>if x.1=0 then -1 else h-768|none => -1) else -1
end Go.Ax
namespace Go.Ax
open Go Go.Eng
variable (a:UInt32)(k p:List UInt8)(x:UInt32)(i:Nat)(l:List UInt8)(b w:UInt32)(m:Nat)(c e d f g:UInt32)
noncomputable def Ie(x:Nat)(k:Nat->Nat):Nat:=Nat.rec (k 0) (fun n _=>k (Nat.succ n)) x
theorem fZ(x:Nat)(k:Nat->Nat):Ie x k=k x:=by cases x<;>rfl
def kN:List Nat:=[
  0x428a2f98,0x71374491,0xb5c0fbcf,0xe9b5dba5,0x3956c25b,0x59f111f1,0x923f82a4,0xab1c5ed5,
  0xd807aa98,0x12835b01,0x243185be,0x550c7dc3,0x72be5d74,0x80deb1fe,0x9bdc06a7,0xc19bf174,
  0xe49b69c1,0xefbe4786,0x0fc19dc6,0x240ca1cc,0x2de92c6f,0x4a7484aa,0x5cb0a9dc,0x76f988da,
  0x983e5152,0xa831c66d,0xb00327c8,0xbf597fc7,0xc6e00bf3,0xd5a79147,0x06ca6351,0x14292967,
  0x27b70a85,0x2e1b2138,0x4d2c6dfc,0x53380d13,0x650a7354,0x766a0abb,0x81c2c92e,0x92722c85,
  0xa2bfe8a1,0xa81a664b,0xc24b8b70,0xc76c51a3,0xd192e819,0xd6990624,0xf40e3585,0x106aa070,
  0x19a4c116,0x1e376c08,0x2748774c,0x34b0bcb5,0x391c0cb3,0x4ed8aa4a,0x5b9cca4f,0x682e6ff3,
  0x748f82ee,0x78a5636f,0x84c87814,0x8cc70208,0x90befffa,0xa4506ceb,0xbef9a3f7,0xc67178f2]
noncomputable def goN:List Nat->(a b c d e f g h w0 w1 w2 w3 w4 w5 w6 w7 w8 w9 w10 w11 w12 w13 w14 w15:Nat)->(Nat->Nat->Nat->Nat->Nat->Nat->Nat->Nat->Nat)->Nat :=
  fun l=>List.rec (fun a b c d e f g h _ _ _ _ _ _ _ _ _ _ _ _ _ _ _ _ r=>r a b c d e f g h)
   (fun k _ ih a b c d e f g h w0 w1 w2 w3 w4 w5 w6 w7 w8 w9 w10 w11 w12 w13 w14 w15 r =>
    Ie (Nat.mul e 4294967297) fun ee=>Ie (Nat.mul a 4294967297) fun aa=>Ie (Nat.mul w14 4294967297) fun x=>Ie (Nat.mul w1 4294967297) fun y =>
    Ie (Nat.mod (Nat.add (Nat.add (Nat.add h (Nat.xor (Nat.xor (Nat.shiftRight ee 6) (Nat.shiftRight ee 11)) (Nat.shiftRight ee 25))) (Nat.add (Nat.xor (Nat.land e (Nat.xor f g)) g) k)) w0) 4294967296) fun t1 =>
    Ie (Nat.mod (Nat.add t1 (Nat.add (Nat.xor (Nat.xor (Nat.shiftRight aa 2) (Nat.shiftRight aa 13)) (Nat.shiftRight aa 22)) (Nat.xor (Nat.land a (Nat.xor b c)) (Nat.land b c)))) 4294967296) fun a' =>
    Ie (Nat.mod (Nat.add d t1) 4294967296) fun e' =>
    Ie (Nat.mod (Nat.add (Nat.add (Nat.xor (Nat.xor (Nat.shiftRight x 17) (Nat.shiftRight x 19)) (Nat.shiftRight w14 10)) w9) (Nat.add (Nat.xor (Nat.xor (Nat.shiftRight y 7) (Nat.shiftRight y 18)) (Nat.shiftRight w1 3)) w0)) 4294967296) fun w' =>
    ih a' a b c e' e f g w1 w2 w3 w4 w5 w6 w7 w8 w9 w10 w11 w12 w13 w14 w15 w' r) l
theorem o8(s:Nat)(h:0<s/\s<32):(x.toNat*4294967297)>>>s%4294967296=(Jj x s).toNat:=by
 have hx:=x.toNat_lt
 have e:x.toNat*4294967297=x.toNat<<<32|||x.toNat:=by
  rw[<-Nat.shiftLeft_add_eq_or_of_lt zaa,Nat.shiftLeft_eq];omega
 rw[e,Jj,UInt32.toNat_or,UInt32.toNat_shiftRight,UInt32.toNat_shiftLeft,UInt32.toNat_ofNat',UInt32.toNat_ofNat',Nat.mod_mod_of_dvd _ zad,Nat.mod_mod_of_dvd _ zad,Nat.mod_eq_of_lt (show s<32 by omega),Nat.mod_eq_of_lt (show 32-s<32 by omega)]
 apply Nat.eq_of_testBit_eq
 intro i
 rw[show 4294967296=2^32 from rfl,Nat.testBit_mod_two_pow,Nat.testBit_shiftRight,Nat.testBit_or,Nat.testBit_shiftLeft,Nat.testBit_or,Nat.testBit_shiftRight,Nat.testBit_mod_two_pow,Nat.testBit_shiftLeft]
 have hb:∀ j,32<=j->x.toNat.testBit j=false:=fun j hj=>Nat.testBit_lt_two_pow (Nat.lt_of_lt_of_le hx (Nat.pow_le_pow_right zad hj))
 by_cases h1:i<32
 ·by_cases h2:32<=s+i
  ·have h3:=hb (s+i) h2
   simp[h1,h2,h3,show 32<=i+s by omega,show s+i-32=i-(32-s) by omega]
  ·simp[h1,h2,show ¬32<=i+s by omega]
 ·have h3:=hb (s+i) zaa
  simp[h1,h3]
theorem xW(a b:Nat):Nat.xor a b%4294967296=Nat.xor (a%4294967296) (b%4294967296):=Nat.xor_mod_two_pow (n:=32)
theorem AAU(s:Nat)(h:s<32):x.toNat>>>s%4294967296=(x>>>UInt32.ofNat s).toNat:=by
 have hx:=x.toNat_lt
 rw[UInt32.toNat_shiftRight,UInt32.toNat_ofNat',Nat.mod_mod_of_dvd _ zad,Nat.mod_eq_of_lt (show s<32 by omega),Nat.mod_eq_of_lt]
 rw[Nat.shiftRight_eq_div_pow]
 exact Nat.lt_of_le_of_lt (Nat.div_le_self ..) hx
theorem ACI:Nat.xor (Nat.land e.toNat (Nat.xor f.toNat g.toNat)) g.toNat=(e&&&f ^^^ ~~~e&&&g).toNat:=by
 have:(e&&&f ^^^ ~~~e&&&g)=(e&&&(f^^^g))^^^g:=by
  apply UInt32.toBitVec_inj.1
  simp only[UInt32.toBitVec_xor,UInt32.toBitVec_and,UInt32.toBitVec_not]
  ext i hi
  simp only[BitVec.getElem_xor,BitVec.getElem_and,BitVec.getElem_not]
  cases e.toBitVec[i]<;>cases f.toBitVec[i]<;>cases g.toBitVec[i]<;>rfl
 rw[this,UInt32.toNat_xor,UInt32.toNat_and,UInt32.toNat_xor];rfl
theorem AAV:Nat.xor (Nat.land a.toNat (Nat.xor b.toNat c.toNat)) (Nat.land b.toNat c.toNat)=(a&&&b^^^a&&&c^^^b&&&c).toNat:=by
 have:(a&&&b^^^a&&&c^^^b&&&c)=(a&&&(b^^^c))^^^(b&&&c):=by
  apply UInt32.toBitVec_inj.1
  simp only[UInt32.toBitVec_xor,UInt32.toBitVec_and]
  ext i hi
  simp only[BitVec.getElem_xor,BitVec.getElem_and]
  cases a.toBitVec[i]<;>cases b.toBitVec[i]<;>cases c.toBitVec[i]<;>rfl
 rw[this,UInt32.toNat_xor,UInt32.toNat_and,UInt32.toNat_xor,UInt32.toNat_and];rfl
theorem AAW(j k:Nat)(hi:0<i/\i<32)(hj:0<j/\j<32)(hk:0<k/\k<32):Nat.xor (Nat.xor (Nat.shiftRight (Nat.mul x.toNat 4294967297) i) (Nat.shiftRight (Nat.mul x.toNat 4294967297) j)) (Nat.shiftRight (Nat.mul x.toNat 4294967297) k)%4294967296=(Jj x i^^^Jj x j^^^Jj x k).toNat:=by
 rw[xW,xW,UInt32.toNat_xor,UInt32.toNat_xor,<-o8 x i hi,<-o8 x j hj,<-o8 x k hk];rfl
theorem AAX(j k:Nat)(hi:0<i/\i<32)(hj:0<j/\j<32)(hk:k<32):Nat.xor (Nat.xor (Nat.shiftRight (Nat.mul x.toNat 4294967297) i) (Nat.shiftRight (Nat.mul x.toNat 4294967297) j)) (Nat.shiftRight x.toNat k)%4294967296=(Jj x i^^^Jj x j^^^x>>>UInt32.ofNat k).toNat:=by
 rw[xW,xW,UInt32.toNat_xor,UInt32.toNat_xor,<-o8 x i hi,<-o8 x j hj,<-AAU x k hk];rfl
def wd(b:List UInt8)(t:Nat):UInt32:=KH b (Dc b t) t
theorem QX(b:List UInt8):∀ n i,i<n->(Dc b n).getD i 0=wd b i
 | n+1,i,h=>by
  rw[Dc,List.getD_eq_getElem?_getD]
  by_cases h1:i<n
  ·rw[List.getElem?_append_left (by rw[JD];exact h1),<-List.getD_eq_getElem?_getD];exact QX b n i h1
  ·obtain rfl:i=n:=zaa
   rw[List.getElem?_append_right (by rw[JD];omega),JD,Nat.sub_self];rfl
theorem AAY(b:List UInt8)(t:Nat)(h:t<16):wd b t=be32 b (4*t):=by rw[wd,KH,if_pos h]
theorem AAZ(b:List UInt8)(t:Nat):wd b (t+16)=sg1 (wd b (t+14))+wd b (t+9)+sg0 (wd b (t+1))+wd b t:=by
 rw[wd,KH,if_neg zaa,QX b _ _ zaa,QX b _ _ zaa,QX b _ _ zaa,QX b _ _ zaa]
 rfl
theorem A8z(t:Nat)(h:t<64):kN.drop t=(Iz.getD t 0).toNat::kN.drop (t+1):=by
 have:∀ t:Fin 64,kN.drop t.val=(Iz.getD t.val 0).toNat::kN.drop (t.val+1):=zaA
 exact this ⟨t,h⟩
theorem A4X(k:Nat)(l:List Nat)(a b c d e f g h w0 w1 w2 w3 w4 w5 w6 w7 w8 w9 w10 w11 w12 w13 w14 w15:Nat)(r:Nat->Nat->Nat->Nat->Nat->Nat->Nat->Nat->Nat):
  goN (k::l) a b c d e f g h w0 w1 w2 w3 w4 w5 w6 w7 w8 w9 w10 w11 w12 w13 w14 w15 r =
  Ie (Nat.mul e 4294967297) fun ee=>Ie (Nat.mul a 4294967297) fun aa=>Ie (Nat.mul w14 4294967297) fun x=>Ie (Nat.mul w1 4294967297) fun y =>
  Ie (Nat.mod (Nat.add (Nat.add (Nat.add h (Nat.xor (Nat.xor (Nat.shiftRight ee 6) (Nat.shiftRight ee 11)) (Nat.shiftRight ee 25))) (Nat.add (Nat.xor (Nat.land e (Nat.xor f g)) g) k)) w0) 4294967296) fun t1 =>
  Ie (Nat.mod (Nat.add t1 (Nat.add (Nat.xor (Nat.xor (Nat.shiftRight aa 2) (Nat.shiftRight aa 13)) (Nat.shiftRight aa 22)) (Nat.xor (Nat.land a (Nat.xor b c)) (Nat.land b c)))) 4294967296) fun a' =>
  Ie (Nat.mod (Nat.add d t1) 4294967296) fun e' =>
  Ie (Nat.mod (Nat.add (Nat.add (Nat.xor (Nat.xor (Nat.shiftRight x 17) (Nat.shiftRight x 19)) (Nat.shiftRight w14 10)) w9) (Nat.add (Nat.xor (Nat.xor (Nat.shiftRight y 7) (Nat.shiftRight y 18)) (Nat.shiftRight w1 3)) w0)) 4294967296) fun w' =>
  goN l a' a b c e' e f g w1 w2 w3 w4 w5 w6 w7 w8 w9 w10 w11 w12 w13 w14 w15 w' r:=rfl
theorem ACJ(h k w:UInt32):Nat.mod (Nat.add (Nat.add (Nat.add h.toNat (Nat.xor (Nat.xor (Nat.shiftRight (Nat.mul e.toNat 4294967297) 6) (Nat.shiftRight (Nat.mul e.toNat 4294967297) 11)) (Nat.shiftRight (Nat.mul e.toNat 4294967297) 25))) (Nat.add (Nat.xor (Nat.land e.toNat (Nat.xor f.toNat g.toNat)) g.toNat) k.toNat)) w.toNat) 4294967296
  = (h+(Jj e 6^^^Jj e 11^^^Jj e 25)+(e&&&f ^^^ ~~~e&&&g)+k+w).toNat:=by
 have h1:=AAW e 6 11 25 zad zad zad
 rw[ACI]
 generalize Nat.xor (Nat.xor (Nat.shiftRight (Nat.mul e.toNat 4294967297) 6) (Nat.shiftRight (Nat.mul e.toNat 4294967297) 11)) (Nat.shiftRight (Nat.mul e.toNat 4294967297) 25)=X at *
 simp only[UInt32.toNat_add]
 rw[<-h1]
 generalize (e&&&f ^^^ ~~~e&&&g).toNat=C
 show(h.toNat+X+(C+k.toNat)+w.toNat)%4294967296=_
 omega
theorem ACK(t a b c:UInt32):Nat.mod (Nat.add t.toNat (Nat.add (Nat.xor (Nat.xor (Nat.shiftRight (Nat.mul a.toNat 4294967297) 2) (Nat.shiftRight (Nat.mul a.toNat 4294967297) 13)) (Nat.shiftRight (Nat.mul a.toNat 4294967297) 22)) (Nat.xor (Nat.land a.toNat (Nat.xor b.toNat c.toNat)) (Nat.land b.toNat c.toNat)))) 4294967296
  = (t+((Jj a 2^^^Jj a 13^^^Jj a 22)+(a&&&b^^^a&&&c^^^b&&&c))).toNat:=by
 have h1:=AAW a 2 13 22 zad zad zad
 rw[AAV]
 generalize Nat.xor (Nat.xor (Nat.shiftRight (Nat.mul a.toNat 4294967297) 2) (Nat.shiftRight (Nat.mul a.toNat 4294967297) 13)) (Nat.shiftRight (Nat.mul a.toNat 4294967297) 22)=X at *
 simp only[UInt32.toNat_add]
 rw[<-h1]
 generalize (a&&&b^^^a&&&c^^^b&&&c).toNat=C
 show(t.toNat+(X+C))%4294967296=_
 omega
theorem ACM(X v Z z:Nat):(X+v+(Z+z))%4294967296=(((X%4294967296+v)%2^32+Z%4294967296)%2^32+z)%2^32:=zaa
theorem w_N(v y z:UInt32):Nat.mod (Nat.add (Nat.add (Nat.xor (Nat.xor (Nat.shiftRight (Nat.mul x.toNat 4294967297) 17) (Nat.shiftRight (Nat.mul x.toNat 4294967297) 19)) (Nat.shiftRight x.toNat 10)) v.toNat) (Nat.add (Nat.xor (Nat.xor (Nat.shiftRight (Nat.mul y.toNat 4294967297) 7) (Nat.shiftRight (Nat.mul y.toNat 4294967297) 18)) (Nat.shiftRight y.toNat 3)) z.toNat)) 4294967296
  = (sg1 x+v+sg0 y+z).toNat:=by
 have h1:=AAX x 17 19 10 zad zad zad
 have h2:=AAX y 7 18 3 zad zad zad
 rw[show(Jj x 17^^^Jj x 19^^^x>>>UInt32.ofNat 10)=sg1 x from rfl] at h1
 rw[show(Jj y 7^^^Jj y 18^^^y>>>UInt32.ofNat 3)=sg0 y from rfl] at h2
 rw[UInt32.toNat_add,UInt32.toNat_add,UInt32.toNat_add,<-h1,<-h2]
 exact ACM _ _ _ _
def at8(l:List UInt32)(i:Nat):Nat:=(l.getD i 0).toNat
theorem A4Y(p:List UInt8)(s:List UInt32):∀(k t:Nat),t+k=64->∀(a b c d e f g h:UInt32) (r:Nat->Nat->Nat->Nat->Nat->Nat->Nat->Nat->Nat),Gj (Dc p 64) s t=[a,b,c,d,e,f,g,h] ->
  goN (kN.drop t) a.toNat b.toNat c.toNat d.toNat e.toNat f.toNat g.toNat h.toNat (wd p t).toNat (wd p (t+1)).toNat (wd p (t+2)).toNat (wd p (t+3)).toNat (wd p (t+4)).toNat (wd p (t+5)).toNat (wd p (t+6)).toNat (wd p (t+7)).toNat (wd p (t+8)).toNat (wd p (t+9)).toNat (wd p (t+10)).toNat (wd p (t+11)).toNat (wd p (t+12)).toNat (wd p (t+13)).toNat (wd p (t+14)).toNat (wd p (t+15)).toNat r
   = r (at8 (Gj (Dc p 64) s 64) 0) (at8 (Gj (Dc p 64) s 64) 1) (at8 (Gj (Dc p 64) s 64) 2) (at8 (Gj (Dc p 64) s 64) 3) (at8 (Gj (Dc p 64) s 64) 4) (at8 (Gj (Dc p 64) s 64) 5) (at8 (Gj (Dc p 64) s 64) 6) (at8 (Gj (Dc p 64) s 64) 7)
 | 0,t,ht,a,b,c,d,e,f,g,h,r,hs=>by
  obtain rfl:t=64:=zaa
  rw[hs];rfl
 | k+1,t,ht,a,b,c,d,e,f,g,h,r,hs=>by
  rw[A8z t zaa,A4X]
  simp only[fZ]
  rw[ACJ,ACK,w_N,<-AAZ]
  have ih:=A4Y p s k (t+1) zaa _ a b c _ e f g r (by rw[Gj,hs,Ws,QX p _ _ zaa];rfl)
  rw[<-ih]
  simp only[List.getD_cons_zero,List.getD_cons_succ,UInt32.toNat_add,Nat.add_assoc,Nat.reduceAdd]
  rfl
abbrev R8:=Nat->Nat->Nat->Nat->Nat->Nat->Nat->Nat->Nat
abbrev nB(l:List UInt8):List Nat:=l.map UInt8.toNat
noncomputable def Pi(l:List Nat)(k:Nat->List Nat->Nat):Nat :=
 match l with
 | a::b::c::d::l=>Ie (Nat.add (Nat.mul (Nat.add (Nat.mul (Nat.add (Nat.mul a 256) b) 256) c) 256) d) fun w=>k w l
 | _=>0
theorem A90(a b c d:UInt8)(l:List UInt8):(be32 (a::b::c::d::l) 0).toNat=((a.toNat*256+b.toNat)*256+c.toNat)*256+d.toNat:=by
 have ha:=a.toNat_lt
 have hb:=b.toNat_lt
 have hc:=c.toNat_lt
 have hd:=d.toNat_lt
 show(a.toUInt32<<<24|||b.toUInt32<<<16|||c.toUInt32<<<8|||d.toUInt32).toNat=_
 simp only[UInt32.toNat_or,UInt32.toNat_shiftLeft,UInt8.toNat_toUInt32]
 rw[show UInt32.toNat 24%32=24 from rfl,show UInt32.toNat 16%32=16 from rfl,show UInt32.toNat 8%32=8 from rfl]
 rw[Nat.mod_eq_of_lt za5,Nat.mod_eq_of_lt za5,Nat.mod_eq_of_lt za5]
 rw[<-Nat.shiftLeft_add_eq_or_of_lt (i:=24) za5]
 rw[show a.toNat<<<24+b.toNat<<<16=(a.toNat*256+b.toNat)<<<16 by simp only[Nat.shiftLeft_eq];omega,<-Nat.shiftLeft_add_eq_or_of_lt (i:=16) za5]
 rw[show(a.toNat*256+b.toNat)<<<16+c.toNat<<<8=((a.toNat*256+b.toNat)*256+c.toNat)<<<8 by simp only[Nat.shiftLeft_eq];omega,<-Nat.shiftLeft_add_eq_or_of_lt (i:=8) zaa]
 simp only[Nat.shiftLeft_eq]
theorem A91(h:4<=p.length)(k:Nat->List Nat->Nat):Pi (nB p) k=k (be32 p 0).toNat (nB (p.drop 4)):=by
 obtain⟨a,b,c,d,l,rfl⟩:∃ a b c d l,p=a::b::c::d::l:=by
  match p,h with
  | a::b::c::d::l,_=>exact⟨a,b,c,d,l,rfl⟩
 rw[A90]
 refine(show Pi (nB (a::b::c::d::l)) k=Ie (((a.toNat*256+b.toNat)*256+c.toNat)*256+d.toNat) (fun w=>k w (nB l)) from rfl).trans ?_
 rw[fZ];rfl
theorem A0X:be32 (p.drop m) 0=be32 p m:=by
 simp[be32,List.getD_eq_getElem?_getD]
theorem A0Y(h:m+4<=64):be32 (p.take 64) m=be32 p m:=by
 simp only[be32,List.getD_eq_getElem?_getD]
 rw[List.getElem?_take_of_lt zaa,List.getElem?_take_of_lt zaa,List.getElem?_take_of_lt zaa,List.getElem?_take_of_lt zaa]
theorem AAa(hi:i<16)(h:64<=p.length)(k:Nat->List Nat->Nat):Pi (nB (p.drop (4*i))) k=k (wd (p.take 64) i).toNat (nB (p.drop (4*(i+1)))):=by
 rw[A91 _ zaI,A0X,List.drop_drop,AAY _ _ hi,A0Y _ _ zaa];rfl
noncomputable def A6t:Nat->(a b c d e f g h:Nat)->List Nat->R8->Nat:=fun n =>
 Nat.rec (fun a b c d e f g h _ r=>r a b c d e f g h)
  (fun _ ih a b c d e f g h l r=>Pi l fun w0 l=>Pi l fun w1 l=>Pi l fun w2 l=>Pi l fun w3 l=>Pi l fun w4 l=>Pi l fun w5 l=>Pi l fun w6 l=>Pi l fun w7 l=>Pi l fun w8 l=>Pi l fun w9 l=>Pi l fun w10 l=>Pi l fun w11 l=>Pi l fun w12 l=>Pi l fun w13 l=>Pi l fun w14 l=>Pi l fun w15 l =>
   goN kN a b c d e f g h w0 w1 w2 w3 w4 w5 w6 w7 w8 w9 w10 w11 w12 w13 w14 w15 fun a1 b1 c1 d1 e1 f1 g1 h1 =>
    Ie (Nat.mod (Nat.add a a1) 4294967296) fun a=>Ie (Nat.mod (Nat.add b b1) 4294967296) fun b=>Ie (Nat.mod (Nat.add c c1) 4294967296) fun c=>Ie (Nat.mod (Nat.add d d1) 4294967296) fun d=>Ie (Nat.mod (Nat.add e e1) 4294967296) fun e=>Ie (Nat.mod (Nat.add f f1) 4294967296) fun f=>Ie (Nat.mod (Nat.add g g1) 4294967296) fun g=>Ie (Nat.mod (Nat.add h h1) 4294967296) fun h =>
     ih a b c d e f g h l r) n
theorem A0Z(n:Nat)(a b c d e f g h:Nat)(l:List Nat)(r:R8):A6t (n+1) a b c d e f g h l r=Pi l fun w0 l=>Pi l fun w1 l=>Pi l fun w2 l=>Pi l fun w3 l=>Pi l fun w4 l=>Pi l fun w5 l=>Pi l fun w6 l=>Pi l fun w7 l=>Pi l fun w8 l=>Pi l fun w9 l=>Pi l fun w10 l=>Pi l fun w11 l=>Pi l fun w12 l=>Pi l fun w13 l=>Pi l fun w14 l=>Pi l fun w15 l =>
   goN kN a b c d e f g h w0 w1 w2 w3 w4 w5 w6 w7 w8 w9 w10 w11 w12 w13 w14 w15 fun a1 b1 c1 d1 e1 f1 g1 h1 =>
    Ie (Nat.mod (Nat.add a a1) 4294967296) fun a=>Ie (Nat.mod (Nat.add b b1) 4294967296) fun b=>Ie (Nat.mod (Nat.add c c1) 4294967296) fun c=>Ie (Nat.mod (Nat.add d d1) 4294967296) fun d=>Ie (Nat.mod (Nat.add e e1) 4294967296) fun e=>Ie (Nat.mod (Nat.add f f1) 4294967296) fun f=>Ie (Nat.mod (Nat.add g g1) 4294967296) fun g=>Ie (Nat.mod (Nat.add h h1) 4294967296) fun h =>
     A6t n a b c d e f g h l r:=rfl
def Ev(f:R8->Nat)(x:List UInt32):Prop:=∃ a b c d e f' g h:UInt32,x=[a,b,c,d,e,f',g,h]/\∀ r,f r=r a.toNat b.toNat c.toNat d.toNat e.toNat f'.toNat g.toNat h.toNat
theorem Vu:Nat.mod (Nat.add a.toNat b.toNat) 4294967296=(a+b).toNat:=(UInt32.toNat_add a b).symm
theorem ACN{s:List UInt32}(h:s.length=8):∃ a b c d e f g h:UInt32,s=[a,b,c,d,e,f,g,h]:=by
 match s,h with
 | [a,b,c,d,e,f,g,h],_=>exact⟨a,b,c,d,e,f,g,h,rfl⟩
theorem xX:∀(n:Nat) (p:List UInt8) (a b c d e f g h:UInt32),64*n<=p.length->Ev (A6t n a.toNat b.toNat c.toNat d.toNat e.toNat f.toNat g.toNat h.toNat (nB p)) (GK EG n [a,b,c,d,e,f,g,h] p)
 | 0,p,a,b,c,d,e,f,g,h,_=>⟨a,b,c,d,e,f,g,h,rfl,fun _=>rfl⟩
 | n+1,p,a,b,c,d,e,f,g,h,hl=>by
  obtain⟨a1,b1,c1,d1,e1,f1,g1,h1,hs⟩:=ACN (VI (Dc (p.take 64) 64) [a,b,c,d,e,f,g,h] rfl 64)
  have hc:EG [a,b,c,d,e,f,g,h] (p.take 64)=[a+a1,b+b1,c+c1,d+d1,e+e1,f+f1,g+g1,h+h1]:=by rw[EG,hs];rfl
  obtain⟨a2,b2,c2,d2,e2,f2,g2,h2,hf,hr⟩:=xX n (p.drop 64) (a+a1) (b+b1) (c+c1) (d+d1) (e+e1) (f+f1) (g+g1) (h+h1) zaI
  refine⟨a2,b2,c2,d2,e2,f2,g2,h2,by rw[GK,hc];exact hf,fun r=>?_⟩
  have hg:=A4Y (p.take 64) [a,b,c,d,e,f,g,h] 64 0 rfl a b c d e f g h
  have hw:64<=p.length:=zaa
  have k:=fun i hi k=>AAa p i hi hw k
  rw[A0Z,<-hr r]
  rw[show nB p=nB (p.drop (4*0)) from rfl,k 0 zad]
  rw[k (0+1) zad]
  rw[k (0+1+1) zad]
  rw[k (0+1+1+1) zad]
  rw[k (0+1+1+1+1) zad]
  rw[k (0+1+1+1+1+1) zad]
  rw[k (0+1+1+1+1+1+1) zad]
  rw[k (0+1+1+1+1+1+1+1) zad]
  rw[k (0+1+1+1+1+1+1+1+1) zad]
  rw[k (0+1+1+1+1+1+1+1+1+1) zad]
  rw[k (0+1+1+1+1+1+1+1+1+1+1) zad]
  rw[k (0+1+1+1+1+1+1+1+1+1+1+1) zad]
  rw[k (0+1+1+1+1+1+1+1+1+1+1+1+1) zad]
  rw[k (0+1+1+1+1+1+1+1+1+1+1+1+1+1) zad]
  rw[k (0+1+1+1+1+1+1+1+1+1+1+1+1+1+1) zad]
  rw[k (0+1+1+1+1+1+1+1+1+1+1+1+1+1+1+1) zad]
  refine(hg _ rfl).trans ?_
  rw[hs]
  simp only[fZ,at8,List.getD_cons_zero,List.getD_cons_succ]
  rw[Vu,Vu,Vu,Vu,Vu,Vu,Vu,Vu]
def A6u(l:List UInt8):List UInt32:=GK EG ((KP l).length/64) h256 (KP l)
theorem A4Z:sha256 l=F7 (A6u l):=rfl
def A92(n:Nat):List Nat:=128::(List.replicate (Nat.mod (Nat.sub 119 (Nat.mod n 64)) 64) 0++[0,0,0,0,0,0,Nat.mod (Nat.div (Nat.mul 8 n) 256) 256,Nat.mod (Nat.mul 8 n) 256])
noncomputable def A0a(l:List Nat)(n:Nat)(r:R8):Nat:=A6t (Nat.div (Nat.add n 72) 64) 0x6a09e667 0xbb67ae85 0x3c6ef372 0xa54ff53a 0x510e527f 0x9b05688c 0x1f83d9ab 0x5be0cd19 (l++A92 n) r
theorem AAb(n:Nat)(h:n<8192):nB (oZ (UInt64.ofInt (n:Int)*8))=[0,0,0,0,0,0,8*n/256%256,8*n%256]:=by
 have e:(UInt64.ofInt (n:Int)*8).toNat=8*n:=by
  have e0:(UInt64.ofInt (n:Int)).toNat=n:=by
   rw[UInt64.ofInt,UInt64.toNat_ofNat'];omega
  rw[UInt64.toNat_mul,e0,show UInt64.toNat 8=8 from rfl];omega
 have g:∀ s,s<64->((UInt64.ofInt (n:Int)*8)>>>UInt64.ofNat s).toUInt8.toNat=8*n/2^s%256:=by
  intro s hs
  rw[UInt64.toNat_toUInt8,UInt64.toNat_shiftRight,e,UInt64.toNat_ofNat',Nat.mod_mod_of_dvd _ zad,Nat.mod_eq_of_lt hs,Nat.shiftRight_eq_div_pow]
 simp only[nB,oZ,List.map_map]
 show [_,_,_,_,_,_,_,_]=_
 simp only[Function.comp]
 rw[g _ zad,g _ zad,g _ zad,g _ zad,g _ zad,g _ zad,g _ zad,g _ zad]
 simp;omega
theorem AAc(h:l.length<8192):nB (KP l)=nB l++A92 l.length:=by
 rw[KP,A92,nB,List.map_append,List.map_append,List.map_append,show List.map UInt8.toNat (oZ (UInt64.ofInt (l.length:Int)*8))=_ from AAb _ h,List.map_replicate]
 simp only[List.append_assoc];rfl
theorem Ye(h:l.length<8192):Ev (A0a (nB l) l.length) (A6u l):=by
 have e:=xX ((KP l).length/64) (KP l) 0x6a09e667 0xbb67ae85 0x3c6ef372 0xa54ff53a 0x510e527f 0x9b05688c 0x1f83d9ab 0x5be0cd19 zaa
 rw[AAc l h,show(KP l).length/64=(l.length+72)/64 from by rw[SA];omega] at e
 rw[A6u,show(KP l).length/64=(l.length+72)/64 from by rw[SA];omega]
 exact e
theorem ACO:nB (wb w)=[w.toNat/16777216%256,w.toNat/65536%256,w.toNat/256%256,w.toNat%256]:=by
 have h:=w.toNat_lt
 simp[wb,UInt32.toNat_shiftRight,Nat.shiftRight_eq_div_pow]
def w4N(w:Nat)(l:List Nat):List Nat:=Nat.mod (Nat.div w 16777216) 256::Nat.mod (Nat.div w 65536) 256::Nat.mod (Nat.div w 256) 256::Nat.mod w 256::l
def Yq(a b c d e f g h:Nat):List Nat:=w4N a (w4N b (w4N c (w4N d (w4N e (w4N f (w4N g (w4N h [])))))))
theorem WJ(l:List UInt8):w4N w.toNat (nB l)=nB (wb w++l):=by rw[show nB (wb w++l)=nB (wb w)++nB l from List.map_append,ACO];rfl
theorem aY(e f g h:UInt32):Yq a.toNat b.toNat c.toNat d.toNat e.toNat f.toNat g.toNat h.toNat=nB (F7 [a,b,c,d,e,f,g,h]):=by
 rw[Yq,show([]:List Nat)=nB [] from rfl,WJ,WJ,WJ,WJ,WJ,WJ,WJ,WJ];rfl
noncomputable def A93(key b:List Nat)(n:Nat)(r:R8):Nat:=A0a (key.map (Nat.xor 54)++(List.replicate 32 54++b)) (Nat.add 64 n) fun a b c d e f g h=>A0a (key.map (Nat.xor 92)++(List.replicate 32 92++Yq a b c d e f g h)) 96 r
theorem A4a(x:UInt8)(k:List UInt8):(nB k).map (Nat.xor x.toNat)=nB (Ia x k):=by
 rw[nB,nB,Ia,List.map_map,List.map_map]
 refine List.map_congr_left fun y _=>?_
 show Nat.xor x.toNat y.toNat=(y^^^x).toNat
 rw[UInt8.toNat_xor];exact Nat.xor_comm ..
theorem xY(x:UInt8)(k:List UInt8)(h:k.length=32):Ia x (LD (Oj k))=Ia x k++List.replicate 32 x:=by
 rw[Oj,if_neg zaa,LD,List.take_of_length_le zaa,h,List.drop_replicate,Ia,List.map_append,List.map_replicate]
 rw[show(0:UInt8)^^^x=x from by simp];rfl
def ACP(key b:List UInt8):List UInt32:=A6u (Ia (UInt8.ofNat 92) (LD (Oj key))++sha256 (Ia (UInt8.ofNat 54) (LD (Oj key))++b))
theorem A4b(b:List UInt8)(hk:k.length=32)(hb:b.length<8000):Ev (A93 (nB k) (nB b) b.length) (ACP k b):=by
 have l1:(Ia (UInt8.ofNat 54) (LD (Oj k))++b).length=64+b.length:=by rw[List.length_append,DZ,Dz]
 obtain⟨a1,b1,c1,d1,e1,f1,g1,h1,hx,hr⟩:=Ye (Ia (UInt8.ofNat 54) (LD (Oj k))++b) zaa
 have l2:(Ia (UInt8.ofNat 92) (LD (Oj k))++sha256 (Ia (UInt8.ofNat 54) (LD (Oj k))++b)).length=96:=by rw[List.length_append,DZ,Dz,A7]
 obtain⟨a2,b2,c2,d2,e2,f2,g2,h2,hx2,hr2⟩:=Ye (Ia (UInt8.ofNat 92) (LD (Oj k))++sha256 (Ia (UInt8.ofNat 54) (LD (Oj k))++b)) zaa
 refine⟨a2,b2,c2,d2,e2,f2,g2,h2,hx2,fun r=>?_⟩
 have p1:nB (Ia (UInt8.ofNat 54) (LD (Oj k))++b)=(nB k).map (Nat.xor 54)++(List.replicate 32 54++nB b):=by
  rw[xY _ _ hk,nB,List.map_append,List.map_append,<-nB,<-A4a,List.map_replicate,List.append_assoc];rfl
 have p2:nB (Ia (UInt8.ofNat 92) (LD (Oj k))++sha256 (Ia (UInt8.ofNat 54) (LD (Oj k))++b))=(nB k).map (Nat.xor 92)++(List.replicate 32 92++Yq a1.toNat b1.toNat c1.toNat d1.toNat e1.toNat f1.toNat g1.toNat h1.toNat):=by
  rw[aY,<-hx,<-A4Z,nB,List.map_append,<-nB,xY _ _ hk,nB,List.map_append,<-nB,<-A4a,List.map_replicate,List.append_assoc];rfl
 rw[A93,<-p1]
 rw[show Nat.add 64 b.length=(Ia (UInt8.ofNat 54) (LD (Oj k))++b).length from l1.symm,hr,<-p2]
 rw[l2] at hr2
 exact hr2 r
theorem AAd(c:List UInt8):Aw k l c 32=Xq k (Gn 1++(l++(0::(c++Gn 256)))):=by
 have h:KA k l c 32 1=Xq k (Gn 1++(l++(0::(c++Gn 256)))):=by
  rw[PK,show KA k l c 32 0=[] from rfl,List.nil_append];rfl
 rw[Aw,if_neg zad,show((32:Int)+31)/32=1 from rfl,show Int.toNat 1=1 from rfl,h,List.take_of_length_le (by rw[E5];decide)]
theorem AAe(c:List UInt8):Aw k l c 16=(Xq k (Gn 1++(l++(0::(c++Gn 128))))).take 16:=by
 have h:KA k l c 16 1=Xq k (Gn 1++(l++(0::(c++Gn 128)))):=by
  rw[PK,show KA k l c 16 0=[] from rfl,List.nil_append];rfl
 rw[Aw,if_neg zad,show((16:Int)+31)/32=1 from rfl,show Int.toNat 1=1 from rfl,h];rfl
noncomputable def uU(key lab ctx:List Nat)(m:Nat)(t:List Nat)(r:R8):Nat:=A93 key (0::0::0::1::(lab++(0::(ctx++t)))) (Nat.add 9 m) r
theorem UB(c:List UInt8)(m:Nat)(hk:k.length=32)(hm:l.length+c.length=m)(hb:m<7000):∃ x,Ev (uU (nB k) (nB l) (nB c) m [0,0,1,0]) x/\Aw k l c 32=F7 x:=by
 have h:=A4b k (Gn 1++(l++(0::(c++Gn 256)))) hk (by simp only[List.length_append,List.length_cons,DV];omega)
 refine⟨_,?_,AAd k l c⟩
 rw[show(Gn 1++(l++(0::(c++Gn 256)))).length=Nat.add 9 m from by simp only[List.length_append,List.length_cons,DV];show _=9+m;omega] at h
 have e:nB (Gn 1++(l++(0::(c++Gn 256))))=0::0::0::1::(nB l++(0::(nB c++[0,0,1,0]))):=by
  simp only[nB,List.map_append,List.map_cons];rfl
 rw[e] at h;exact h
theorem A4c(c:List UInt8)(m:Nat)(hk:k.length=32)(hm:l.length+c.length=m)(hb:m<7000):∃ x,Ev (uU (nB k) (nB l) (nB c) m [0,0,0,128]) x/\Aw k l c 16=(F7 x).take 16:=by
 have h:=A4b k (Gn 1++(l++(0::(c++Gn 128)))) hk (by simp only[List.length_append,List.length_cons,DV];omega)
 refine⟨_,?_,AAe k l c⟩
 rw[show(Gn 1++(l++(0::(c++Gn 128)))).length=Nat.add 9 m from by simp only[List.length_append,List.length_cons,DV];show _=9+m;omega] at h
 have e:nB (Gn 1++(l++(0::(c++Gn 128))))=0::0::0::1::(nB l++(0::(nB c++[0,0,0,128]))):=by
  simp only[nB,List.map_append,List.map_cons];rfl
 rw[e] at h;exact h
def nd(a b c d:UInt32):List UInt8:=F7 [a,b,c,d]
theorem A94:(nd a b c d).length=16:=rfl
theorem xZ(e f g h:UInt32):(F7 [a,b,c,d,e,f,g,h]).take 16=nd a b c d:=rfl
abbrev R4:=Nat->Nat->Nat->Nat->Nat
def n4N(a b c d:Nat)(l:List Nat):List Nat:=w4N a (w4N b (w4N c (w4N d l)))
theorem A96(l:List UInt8):n4N a.toNat b.toNat c.toNat d.toNat (nB l)=nB (nd a b c d++l):=by
 rw[n4N,WJ,WJ,WJ,WJ];rfl
noncomputable def A4d(c:Nat):Nat->Nat->(x y z w:Nat)->R4->Nat:=fun n=>Nat.rec (fun _ x y z w r=>r x y z w)
 (fun _ ih p x y z w r=>A0a (1::0::0::0::3::0::c::p::0::0::0::16::n4N x y z w []) 28 fun x y z w _ _ _ _=>ih (Nat.succ p) x y z w r) n
theorem aZ(c:Nat)(hc:c<256):∀(n p:Nat) (x y z w:UInt32),p+n<256->∃ x' y' z' w':UInt32,GM n 0 (c:Int) (p:Int) (nd x y z w)=nd x' y' z' w'/\∀ r,A4d c n p x.toNat y.toNat z.toNat w.toNat r=r x'.toNat y'.toNat z'.toNat w'.toNat
 | 0,p,x,y,z,w,_=>⟨x,y,z,w,rfl,fun _=>rfl⟩
 | n+1,p,x,y,z,w,h=>by
  have e:nB (Ag 1 [[UInt8.ofInt 0,UInt8.ofInt (c:Int),UInt8.ofInt (p:Int)],nd x y z w])=1::0::0::0::3::0::c::p::0::0::0::16::n4N x.toNat y.toNat z.toNat w.toNat []:=by
   rw[show([]:List Nat)=nB [] from rfl,A96,List.append_nil]
   have k:∀ m:Nat,m<256->(UInt8.ofInt (m:Int)).toNat=m:=by
    intro m hm;rw[UInt8.ofInt,UInt8.toNat_ofNat'];omega
   have e1:SC [UInt8.ofInt 0,UInt8.ofInt (c:Int),UInt8.ofInt (p:Int)]=[0,0,0,3]:=by
    rw[SC,show [UInt8.ofInt 0,UInt8.ofInt (c:Int),UInt8.ofInt (p:Int)].length=3 from rfl];rfl
   have e2:SC (nd x y z w)=[0,0,0,16]:=by rw[SC,A94];rfl
   simp only[Ag,fieldsB,List.flatMap_cons,List.flatMap_nil,List.append_nil,e1,e2,nB,List.map_cons,List.cons_append,List.nil_append,k c hc,k p zaa];rfl
  obtain⟨a1,b1,c1,d1,e1,f1,g1,h1,hx,hr⟩:=Ye (Ag 1 [[UInt8.ofInt 0,UInt8.ofInt (c:Int),UInt8.ofInt (p:Int)],nd x y z w]) (by show 28<8192;decide)
  obtain⟨x',y',z',w',k1,k2⟩:=aZ c hc n (p+1) a1 b1 c1 d1 zaa
  refine⟨x',y',z',w',?_,fun r=>?_⟩
  ·rw[GM,Vb,A4Z,hx,xZ,show((p:Int)+1)=((p+1:Nat):Int) from by omega];exact k1
  ·rw[e] at hr
   rw[<-k2 r]
   exact hr _
noncomputable def uV(L:List Nat):Nat->List Nat->(List Nat->Nat)->Nat:=fun n=>Nat.rec (fun l r=>r l)
 (fun n ih l r=>uU L [99,104,97,105,110] [0,n] 7 [0,0,0,128] fun x y z w _ _ _ _=>A4d n 15 0 x y z w fun x y z w=>ih (n4N x y z w l) r) n
def Yr(L:List UInt8)(n:Nat):List UInt8:=Jf 0 (fun c=>Hg L 0 c) (fun c=>0) (fun c=>15) n
theorem ae(L:List UInt8)(hL:L.length=32):∀(n:Nat) (l:List UInt8) (r:List Nat->Nat),n<256->uV (nB L) n (nB l) r=r (nB (Yr L n++l))
 | 0,l,r,_=>rfl
 | n+1,l,r,h=>by
  obtain⟨v,⟨a1,b1,c1,d1,e1,f1,g1,h1,rfl,hr⟩,hd⟩:=A4c L [99,104,97,105,110] [UInt8.ofInt 0,UInt8.ofInt (n:Int)] 7 hL rfl zad
  obtain⟨x',y',z',w',k1,k2⟩:=aZ n zaa 15 0 a1 b1 c1 d1 zad
  have ih:=ae L hL n (nd x' y' z' w'++l) r zaa
  have e:Yr L (n+1)++l=Yr L n++(nd x' y' z' w'++l):=by
   rw[Yr,Ib,List.append_assoc,<-k1,<-xZ,<-hd];rfl
  rw[e,<-ih,<-A96,<-k2 fun x y z w=>uV (nB L) n (n4N x y z w (nB l)) r]
  have k:(UInt8.ofInt (n:Int)).toNat=n:=za9
  rw[show nB [UInt8.ofInt 0,UInt8.ofInt (n:Int)]=[0,n] from by show [0,(UInt8.ofInt (n:Int)).toNat]=_;rw[k]] at hr
  exact hr _
noncomputable def A97(L:List Nat)(r:R8):Nat:=uV L 35 [] fun l=>A0a (2::0::0::0::1::0::0::0::2::48::l) 570 r
theorem A6v(L:List UInt8)(hL:L.length=32):∃ x,Ev (A97 (nB L)) x/\Ir L 0=(F7 x).take 16:=by
 have hl:(Yr L 35).length=560:=Lc _ _ _ _ 35 (fun c _=>DN _ _ _) 35 zad
 have hn:(Ag 2 [[UInt8.ofInt 0],Yr L 35]).length=570:=by
  simp only[Ag,fieldsB,List.flatMap_cons,List.flatMap_nil,List.length_cons,List.length_append,hl];rfl
 have h:=Ye (Ag 2 [[UInt8.ofInt 0],Yr L 35]) zaa
 refine⟨_,?_,rfl⟩
 obtain⟨a1,b1,c1,d1,e1,f1,g1,h1,hx,hr⟩:=h
 refine⟨a1,b1,c1,d1,e1,f1,g1,h1,hx,fun r=>?_⟩
 rw[A97,show([]:List Nat)=nB [] from rfl,ae L hL 35 [] _ zad,List.append_nil,<-hr r,hn]
 have e:nB (Ag 2 [[UInt8.ofInt 0],Yr L 35])=2::0::0::0::1::0::0::0::2::48::nB (Yr L 35):=by
  have:SC (Yr L 35)=[0,0,2,48]:=by rw[SC,hl];rfl
  simp only[Ag,fieldsB,List.flatMap_cons,List.flatMap_nil,List.append_nil,this];rfl
 rw[e]
def A98(l:List Nat):Nat:=l.foldl (fun s x=>Nat.add (Nat.mul s 256) x) 0
noncomputable def Yf(i:Nat):Nat :=
 uU (List.replicate 32 0) [115,101,101,100] [0] 5 [0,0,1,0] fun a b c d e f g h =>
 A0a [i] 1 fun a1 b1 c1 d1 e1 f1 g1 h1 =>
 uU (Yq a b c d e f g h) [112,114,105,109,97,114,121] (0::0::0::0::3::2::5::0::0::0::0::32::(Yq a1 b1 c1 d1 e1 f1 g1 h1++[0,0,0,0])) 55 [0,0,1,0] fun a b c d e f g h =>
 uU (Yq a b c d e f g h) [115,101,101,100] [] 4 [0,0,1,0] fun a b c d e f g h =>
 uU (Yq a b c d e f g h) [115,105,103,110,101,114] [0] 7 [0,0,1,0] fun a b c d e f g h =>
 A97 (Yq a b c d e f g h) fun a b c d _ _ _ _=>A98 (n4N a b c d [])
theorem key_ok(hi:i<256):∃ v:List UInt8,Yf i=A98 (nB v)/\Ir (lsB (Aw (Aw (Aw (List.replicate 32 0) Ic [0] 32) PN (Ag 0 [[2,5,0],sha256 [UInt8.ofNat i],[]]) 32) Ic [] 32) 0) 0=v:=by
 obtain⟨_,⟨a1,b1,c1,d1,e1,f1,g1,h1,rfl,r1⟩,k1⟩:=UB (List.replicate 32 0) Ic [0] 5 zad rfl zad
 have l1:(Aw (List.replicate 32 0) Ic [0] 32).length=32:=G5 zad
 obtain⟨a2,b2,c2,d2,e2,f2,g2,h2,k2,r2⟩:=Ye [UInt8.ofNat i] (Nat.lt_of_lt_of_le (show 1<2 by decide) zad)
 have kk:SC (sha256 [UInt8.ofNat i])=[0,0,0,32]:=by rw[SC,A7];rfl
 have lf:(Ag 0 [[2,5,0],sha256 [UInt8.ofNat i],[]]).length=48:=by
  simp only[Ag,fieldsB,List.flatMap_cons,List.flatMap_nil,List.length_cons,List.length_append,A7];rfl
 have ef:nB (Ag 0 [[2,5,0],sha256 [UInt8.ofNat i],[]])=0::0::0::0::3::2::5::0::0::0::0::32::(Yq a2.toNat b2.toNat c2.toNat d2.toNat e2.toNat f2.toNat g2.toNat h2.toNat++[0,0,0,0]):=by
  rw[aY,<-k2,<-A4Z]
  simp only[Ag,fieldsB,List.flatMap_cons,List.flatMap_nil,List.append_nil,kk,nB,List.map_cons,List.map_append,List.cons_append,List.nil_append];rfl
 obtain⟨_,⟨a3,b3,c3,d3,e3,f3,g3,h3,rfl,r3⟩,k3⟩:=UB (Aw (List.replicate 32 0) Ic [0] 32) PN (Ag 0 [[2,5,0],sha256 [UInt8.ofNat i],[]]) 55 l1 (by rw[lf];rfl) zad
 generalize hT:Aw (Aw (List.replicate 32 0) Ic [0] 32) PN (Ag 0 [[2,5,0],sha256 [UInt8.ofNat i],[]]) 32=T at *
 have l2:T.length=32:=by rw[<-hT];exact G5 zad
 obtain⟨_,⟨a4,b4,c4,d4,e4,f4,g4,h4,rfl,r4⟩,k4⟩:=UB T Ic [] 4 l2 rfl zad
 generalize hS:Aw T Ic [] 32=S at *
 have l3:S.length=32:=by rw[<-hS];exact G5 zad
 obtain⟨_,⟨a5,b5,c5,d5,e5,f5,g5,h5,rfl,r5⟩,k5⟩:=UB S WX [UInt8.ofInt 0] 7 l3 rfl zad
 rw[lsB]
 generalize hL:Aw S WX [UInt8.ofInt 0] 32=L at *
 have l4:L.length=32:=by rw[<-hL];exact G5 zad
 obtain⟨_,⟨a6,b6,c6,d6,e6,f6,g6,h6,rfl,r6⟩,k6⟩:=A6v L l4
 refine⟨nd a6 b6 c6 d6,?_,k6⟩
 have o:nB [UInt8.ofNat i]=[i]:=by show [(UInt8.ofNat i).toNat]=[i];rw[UInt8.toNat_ofNat'];congr 1;omega
 have z:nB (List.replicate 32 0)=List.replicate 32 0:=by rw[nB,List.map_replicate];rfl
 have n:=A96 a6 b6 c6 d6 []
 rw[List.append_nil] at n
 rw[z] at r1
 rw[o] at r2
 rw[k1,<-aY,ef] at r3
 rw[k3,<-aY] at r4
 rw[k4,<-aY] at r5
 rw[k5,<-aY] at r6
 rw[<-n]
 exact(r1 _).trans ((r2 _).trans ((r3 _).trans ((r4 _).trans ((r5 _).trans (r6 _)))))
noncomputable def qU(i:Nat):List UInt8:=EJ 2 0 ⟨[],Aw (Ei ((AX (List.replicate 32 0)).getD 0 []) 2 5 0 (sha256 [UInt8.ofNat i]) []) Ic [] 32,[]⟩
theorem A7b(hi:i<256):∃ v:List UInt8,Yf i=A98 (nB v)/\qU i=0::v:=by
 obtain⟨v,h1,h2⟩:=key_ok i hi
 refine⟨v,h1,?_⟩
 have e:[DI 2,DI 5,DI 0]=[2,5,0]:=by rw[Dh,Dh,Dh];rfl
 rw[qU,EJ,if_pos rfl,FM,if_pos zad,Ei,e,<-h2]
 rfl
end Go.Ax
namespace Go.Proofs.YtanagnimhaemgaaGreatDoor
open Go Go.Ax Go.Eng
section
attribute [local irreducible] Bl CQ CS Bo Bg Ar CU Dw EN Dy EC Bf BU Bv Bz and' C9 CB BK Au BA BL BN Aa Ad AP AZ CV Dq CW DI CE BP BM BF BG BB AU BC Ae Ap Ai CX BH Bh Ba BO CG CY CJ fits CZ CO A8 AA Ac
attribute [local irreducible] Aw Di
theorem PY(x:UInt8)(m:Nat)(hm:m<=1000):∀(k j:Nat),j+k=m->Y E0 (.loop 83 0 0 1 [(0,.i (m:Int)),(1,.u8 x),(5,.nm 0),(6,.i (j:Int))] [(0,some (.row 5 .u8 (List.replicate j x++List.replicate k 0)))])=some (.fin (.exit 0) 0 [(5,.sl .u8 (List.replicate m x))] [])
 | 0,j,hj=>by
  obtain rfl:j=m:=zaa
  refine tq ?_
  simp
 | k+1,j,hj=>by
  have ih:=PY x m hm k (j+1) zaa
  rw[show((j+1:Nat):Int)=(j:Int)+1 from by omega,<-A66] at ih
  have hs:BH (List.replicate j x++List.replicate (k+1) 0) (j:Int) x=(List.replicate j x++List.replicate (k+1) 0).set j x:=by rw[Ea];simp
  refine tq ?_;rw[hs];exact ih
theorem aB(n:Int)(x:UInt8)(hn:0<=n/\n<=1000):Y E0 (.call 83 [.i n,.u8 x] [])=some (.ret (.sl .u8 (List.replicate n.toNat x)) []):=by
 obtain⟨m,rfl⟩:∃ m:Nat,n=m:=⟨n.toNat,by omega⟩
 have hl:=PY x m zaa m 0 zaa
 rw[show((0:Nat):Int)=0 from rfl,List.replicate_zero,List.nil_append] at hl
 have he:Ba (m:Int) (0:UInt8)=List.replicate m 0:=by rw[FY];simp
 refine tq ?_;rw[he,hl];refine tq ?_
 simp
theorem aC(b:Int):Y E0 (.call 84 [.i b] [])=some (.ret (.i (Yk b)) []):=by
 refine tq ?_
 rcases FK b 0 with hc0|hc0
 ·subst hc0;refine tq ?_
  unfold Yk;(repeat(first|rw[if_pos zar]|rw[if_neg zar]));try simp only[NO]
 refine tq ?_
 rcases FK b 1 with hc1|hc1
 ·subst hc1;refine tq ?_
  unfold Yk;(repeat(first|rw[if_pos zar]|rw[if_neg zar]));try simp only[NO]
 refine tq ?_
 unfold Yk;(repeat(first|rw[if_pos zar]|rw[if_neg zar]));try simp only[NO]
theorem Ld(b j:Int)(hb:b=0\/b=1):Y E0 (.call 45 [.i b,.i j] [])=some (.ret (.sl .u8 (List.replicate (Yk b).toNat (if 12<=j then 255 else 0))) []):=by
 have hs:0<=Yk b/\Yk b<=1000:=by unfold Yk;split<;>(try split)<;>omega
 refine tq ?_
 rcases ZV 12 j with hc0|hc0
 ·refine tq ?_;rw[aC _];refine tq ?_;rw[aB _ _ Aq];refine tq ?_
  (rw[if_pos zaa];try rfl)
 refine tq ?_;rw[aC _];refine tq ?_;rw[aB _ _ Aq];refine tq ?_
 (rw[if_neg zaa];try rfl)
theorem kY(a:Int)(h:Ar .and (BU a (BP 0).toNat) 1=1):∀(k j:Nat),j+k=16->Y E0 (.loop 22 1 0 3 [(0,.i a),(2,.pa 0 0),(3,.pa 1 0),(4,.i 0),(5,.nm 2),(6,.i (j:Int))] [(0,some (.var [.nil,.i 0])),(1,some (.var [.nil,.i 0])),(2,some (.row 22 (.sl .u8) (Gs 20 j)))])=some (.fin (.exit 2) 3 [(0,.i a),(2,.pa 0 0),(3,.pa 1 0),(4,.i 0),(5,.nm 2)] [(0,some (.var [.nil,.i 0])),(1,some (.var [.nil,.i 0])),(2,some (.row 22 (.sl .u8) (Gs 20 16)))])
 | 0,j,hj=>by
  obtain rfl:j=16:=zaa
  exact tq rfl
 | k+1,j,hj=>by
  have ih:=kY a h k (j+1) zaa
  rw[show((j+1:Nat):Int)=(j:Int)+1 from by omega,<-YG 0 20 j rfl] at ih
  refine tq ?_;rw[Ld _ _ Aq];refine tq ?_;exact ih
theorem zV(a:Int)(h:Ar .and (BU a (BP 0).toNat) 1≠1):Y E0 (.loop 22 1 0 3 [(0,.i a),(2,.pa 0 0),(3,.pa 1 0),(4,.i 0),(5,.nm 2),(6,.i 0)] [(0,some (.var [.nil,.i 0])),(1,some (.var [.nil,.i 0])),(2,some (.row 22 (.sl .u8) []))])=some (.fin (.exit 2) 3 [(0,.i a),(2,.pa 0 0),(3,.pa 1 0),(4,.i 0),(5,.nm 2)] [(0,some (.var [.nil,.i 0])),(1,some (.var [.nil,.i 0])),(2,some (.row 22 (.sl .u8) []))]):=by
 exact tq rfl
theorem kZ(a:Int)(l:List (List UInt8))(h:Ar .and (BU a (BP 1).toNat) 1=1):∀(k j:Nat),j+k=16->Y E0 (.loop 22 1 0 5 [(0,.i a),(2,.pa 0 0),(3,.pa 1 0),(4,.i 1),(5,.nm 2),(6,.i (j:Int))] [(0,some (.var [.nil,.i 0])),(1,some (.var [.nm 3,.i 0])),(2,some (.row 22 (.sl .u8) (Gs 32 j))),(3,some (.rowA 24 1 1 [.nm 4])),(4,some (.row 22 (.sl .u8) l))])=some (.fin (.exit 2) 5 [(0,.i a),(2,.pa 0 0),(3,.pa 1 0),(4,.i 1),(5,.nm 2)] [(0,some (.var [.nil,.i 0])),(1,some (.var [.nm 3,.i 0])),(2,some (.row 22 (.sl .u8) (Gs 32 16))),(3,some (.rowA 24 1 1 [.nm 4])),(4,some (.row 22 (.sl .u8) l))])
 | 0,j,hj=>by
  obtain rfl:j=16:=zaa
  exact tq rfl
 | k+1,j,hj=>by
  have ih:=kZ a l h k (j+1) zaa
  rw[show((j+1:Nat):Int)=(j:Int)+1 from by omega,<-YG 1 32 j rfl] at ih
  refine tq ?_;rw[Ld _ _ Aq];refine tq ?_;exact ih
theorem zW(a:Int)(l:List (List UInt8))(h:Ar .and (BU a (BP 1).toNat) 1≠1):Y E0 (.loop 22 1 0 5 [(0,.i a),(2,.pa 0 0),(3,.pa 1 0),(4,.i 1),(5,.nm 2),(6,.i 0)] [(0,some (.var [.nil,.i 0])),(1,some (.var [.nm 3,.i 0])),(2,some (.row 22 (.sl .u8) [])),(3,some (.rowA 24 1 1 [.nm 4])),(4,some (.row 22 (.sl .u8) l))])=some (.fin (.exit 2) 5 [(0,.i a),(2,.pa 0 0),(3,.pa 1 0),(4,.i 1),(5,.nm 2)] [(0,some (.var [.nil,.i 0])),(1,some (.var [.nm 3,.i 0])),(2,some (.row 22 (.sl .u8) [])),(3,some (.rowA 24 1 1 [.nm 4])),(4,some (.row 22 (.sl .u8) l))]):=by
 exact tq rfl
theorem A3O(a:Int)(l:List (List UInt8))(hl:l=if Ar .and (BU a (BP 0).toNat) 1=1 then Ec 20 else []):Y E0 (.loop 22 1 0 3 [(0,.i a),(2,.pa 0 0),(3,.pa 1 0),(4,.i 0),(5,.nm 2),(6,.i 0)] [(0,some (.var [.nil,.i 0])),(1,some (.var [.nil,.i 0])),(2,some (.row 22 (.sl .u8) []))])=some (.fin (.exit 2) 3 [(0,.i a),(2,.pa 0 0),(3,.pa 1 0),(4,.i 0),(5,.nm 2)] [(0,some (.var [.nil,.i 0])),(1,some (.var [.nil,.i 0])),(2,some (.row 22 (.sl .u8) l))]):=by
 by_cases h:Ar .and (BU a (BP 0).toNat) 1=1
 ·rw[if_pos h] at hl;subst hl;exact kY a h 16 0 zaa
 ·rw[if_neg h] at hl;subst hl;exact zV a h
theorem A3P(a:Int)(l l':List (List UInt8))(hl:l'=if Ar .and (BU a (BP 1).toNat) 1=1 then Ec 32 else []):Y E0 (.loop 22 1 0 5 [(0,.i a),(2,.pa 0 0),(3,.pa 1 0),(4,.i 1),(5,.nm 2),(6,.i 0)] [(0,some (.var [.nil,.i 0])),(1,some (.var [.nm 3,.i 0])),(2,some (.row 22 (.sl .u8) [])),(3,some (.rowA 24 1 1 [.nm 4])),(4,some (.row 22 (.sl .u8) l))])=some (.fin (.exit 2) 5 [(0,.i a),(2,.pa 0 0),(3,.pa 1 0),(4,.i 1),(5,.nm 2)] [(0,some (.var [.nil,.i 0])),(1,some (.var [.nm 3,.i 0])),(2,some (.row 22 (.sl .u8) l')),(3,some (.rowA 24 1 1 [.nm 4])),(4,some (.row 22 (.sl .u8) l))]):=by
 by_cases h:Ar .and (BU a (BP 1).toNat) 1=1
 ·rw[if_pos h] at hl;subst hl;exact kZ a l h 16 0 zaa
 ·rw[if_neg h] at hl;subst hl;exact zW a l h
theorem YL(a:Int)(ha:0<=a):Y E0 (.call 22 [.i a] [])=some (.ret (.agg [.sl (.sl (.sl .u8)) (Dk a),.i 0]) []):=by
 have e3:Ar .and a 3=a%4:=I5 2 zad a
 have b0:Ar .and (BU a (BP 0).toNat) 1=a%2:=by rw[show(BP 0).toNat=0 from by rw[Ip];rfl,Hf zaa];exact(I5 1 zad _).trans zak
 have b1:Ar .and (BU a (BP 1).toNat) 1=a/2%2:=by rw[show(BP 1).toNat=1 from by rw[Ip];rfl,Hf zaa];exact(I5 1 zad _).trans zak
 have q0:=A3O a _ (by rw[b0])
 have q1:=A3P a (if a%2=1 then Ec 20 else []) _ (by rw[b1])
 have hl:Y E0 (.loop 22 0 0 2 [(0,AV.i a),(2,AV.pa 0 0),(3,AV.pa 1 0),(4,AV.i 0)] [(0,some (Rs.var [AV.nil,AV.i 0])),(1,some (Rs.var [AV.nil,AV.i 0]))])=some (.fin (.exit 0) 5 [(2,.pa 0 0),(3,.pa 1 0)] [(0,some (.var [.nil,.i 0])),(1,some (.var [.nm 2,.i 0])),(2,some (.rowA 24 1 2 [.nm 3,.nm 4])),(3,some (.row 22 (.sl .u8) (if a%2=1 then Ec 20 else []))),(4,some (.row 22 (.sl .u8) (if a/2%2=1 then Ec 32 else [])))]):=by
  refine tq ?_;rw[q0];refine tq ?_;refine tq ?_;rw[show(0:Int)+1=1 from rfl,q1];refine tq ?_;exact tq rfl
 refine tq ?_;rw[e3]
 rcases FK (a%4) 0 with hc0|hc0
 ·refine tq ?_
  (rw[Dk,if_pos (show a%4=0 by omega)])
 refine tq ?_;rw[hl];refine tq ?_
 (rw[Dk,if_neg (show ¬a%4=0 by omega)])
variable (sd au:List (List UInt8))(en:List UInt8)(ac re rs ck:Int)(od:Bool)(sb:List (List (List UInt8)))(su mc:Int)(ix:List (El AL))(l1 l2 l3 l4 l5 l6:Int)(ks:List (El BR))(st sp:Bool)(rb:List (List (List UInt8)))(ru vc:Int)(sf:Bool)(dr:Int)(ss:List (El sesT))(ob:List (El objT))(rl wl:List Int)
end
section
attribute [local irreducible] Bl CQ CS Bo Bg Ar CU Dw EN Dy EC Bf BU Bv Bz and' C9 CB BK Au BA BL BN Aa Ad AP AZ CV Dq CW DI CE BP BM BF BG BB AU BC Ae Ap Ai CX BH Bh Ba BO CG CY CJ fits CZ CO A8 AA Ac
attribute [local irreducible] Aw Di DC nameB EL EJ Ag
abbrev asA(k s0 s1:Int)(d:List UInt8)(n o:Int)(x y z:List UInt8)(bs:List (List UInt8)):AV:=.agg [.i k,.i s0,.i s1,.sl .u8 d,.i n,.i o,.sl .u8 x,.sl .u8 y,.sl .u8 z,.sl (.sl .u8) bs]
end
section
attribute [local irreducible] Bl CQ CS Bo Bg Ar CU Dw EN Dy EC Bf BU Bv Bz and' C9 CB BK Au BA BL BN Aa Ad AP AZ CV Dq CW DI CE BP BM BF BG BB AU BC Ae Ap Ai CX BH Bh Ba BO CG CY CJ fits CZ CO A8 AA Ac
attribute [local irreducible] Aw Di DC nameB EL EJ Ag
variable (sd au:List (List UInt8))(en:List UInt8)(ac re rs ck:Int)(od:Bool)(sb:List (List (List UInt8)))(su mc:Int)(ix:List (El AL))(l1 l2 l3 l4 l5 l6:Int)(ks:List (El BR))(st sp:Bool)(rb:List (List (List UInt8)))(ru vc:Int)(sf:Bool)(dr:Int)(ss:List (El sesT))(ob:List (El objT))(rl wl:List Int)
end
section
attribute [local irreducible] Bl CQ CS Bo Bg Ar CU Dw EN Dy EC Bf BU Bv Bz and' C9 CB BK Au BA BL BN Aa Ad AP AZ CV Dq CW DI CE BP BM BF BG BB AU BC Ae Ap Ai CX BH Bh Ba BO CG CY CJ fits CZ CO A8 AA Ac
theorem xP(sd:List (List UInt8))(au:List (List UInt8))(en:List UInt8)(ac:Int)(re:Int)(rs:Int)(ck:Int)(od:Bool)(su:Int)(mc:Int)(ix:List (El AL))(l1:Int)(l2:Int)(l3:Int)(l4:Int)(l5:Int)(l6:Int)(ks:List (El BR))(st:Bool)(sp:Bool)(rb:List (List (List UInt8)))(ru:Int)(vc:Int)(sf:Bool)(dr:Int)(ss:List (El sesT))(ob:List (El objT))(rl:List Int)(wl:List Int)(c:Int)(hs:List Int)(nn v:List UInt8)(az:List (El AQ))(qi:List Int)(qb:List (List UInt8)):Y E0 (.call 166 [.agg [.sl (.sl .u8) sd,.sl (.sl .u8) au,.sl .u8 en,.i ac,.i re,.i rs,.i ck,.b od,.sl (.sl (.sl .u8)) [],.i su,.i mc,.sl AL ix,.i l1,.i l2,.i l3,.i l4,.i l5,.i l6,.sl BR ks,.b st,.b sp,.sl (.sl (.sl .u8)) rb,.i ru,.i vc,.b sf,.i dr,.sl sesT ss,.sl objT ob,.sl .i64 rl,.sl .i64 wl],rq c hs ((0,nn,v)::az) qi qb] [])=some (.ret (.tup [.agg [.sl (.sl .u8) sd,.sl (.sl .u8) au,.sl .u8 en,.i ac,.i re,.i rs,.i ck,.b od,.sl (.sl (.sl .u8)) [],.i su,.i mc,.sl AL ix,.i l1,.i l2,.i l3,.i l4,.i l5,.i l6,.sl BR ks,.b st,.b sp,.sl (.sl (.sl .u8)) rb,.i ru,.i vc,.b sf,.i dr,.sl sesT ss,.sl objT ob,.sl .i64 rl,.sl .i64 wl],.sl (.sl .u8) []]) []):=by
 refine tq ?_
 with_reducible rfl
end
end Go.Proofs.YtanagnimhaemgaaGreatDoor
