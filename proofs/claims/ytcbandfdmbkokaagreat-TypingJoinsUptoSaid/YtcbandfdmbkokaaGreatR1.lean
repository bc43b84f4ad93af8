/-  What is read: its bulk. -/
import Derived.Test.YtcbandfdmbkokaaGreatR0
import Derived.Test.YtcbandfdmbkokaaGreatFz
namespace Go.Proofs.YtcbandfdmbkokaaGreat.Ev
open Go
set_option maxRecDepth 100000
set_option linter.unusedVariables false
set_option linter.unusedSimpArgs false
set_option linter.unnecessarySimpa false
def Iw(x:Be):Nat:=(x.Name.size+1)+1+1
def Rh(x:Cq):Nat:=(x.From.size+1)+(x.To.size+1)+1+1
def I6(x:B3):Nat:=(x.Name.size+1)+1+1+1
def T2(x:Jz):Nat:=1+(x.What.size+1)+(x.Name.size+1)+1
def Vp(x:Oh):Nat:=(x.Name.size+1)+(Da T2 x.Terms+1)+1+1
def R8(x:F6):Nat:=1+1+1
def K4(x:Bo):Nat:=1+1+1+1+(Da (fun(z:Int)=>1) x.Values+1)+(Da (fun(z:Int)=>1) x.Weights+1)+1
def Xq(x:T1):Nat:=(x.Stream.size+1)+K4 x.Up+K4 x.Down+1
def Fs(x:Bf):Nat:=(x.Name.size+1)+1+(Da R8 x.Shift+1)+1+Xq x.Fault+1
mutual
def Cn:Aa→Nat
 | .mk a0 a1 a2 a3=>1+(a1.size+1)+1+(Rm a3+1)+1
def Rm:List Aa→Nat
 | []=>0
 |x::k=>Cn x+Rm k
end
theorem Aij(l:List Aa):Rm l=Da Cn l:=by
 induction l with
 |nil=>rw [Rm];rfl
 |cons x k ih=>rw [Rm,ih];rfl
theorem Ak3(x:Aa):Cn x=1+(x.Name.size+1)+1+(Da Cn x.Kids+1)+1:=by
 cases x with|mk a0 a1 a2 a3=>simp only [Cn,Aij,Aa.Op,Aa.Name,Aa.N,Aa.Kids]
mutual
def Cv:Ab→Nat
 | .mk a0 a1 a2 a3 a4 a5 a6 a7 a8 a9=>1+(a1.size+1)+(a2.size+1)+Cn a3+Cn a4+(Da Cn a5+1)+K4 a6+1+(Ct a8+1)+(Ct a9+1)+1
def Ct:List Ab→Nat
 | []=>0
 |x::k=>Cv x+Ct k
end
theorem Hp(l:List Ab):Ct l=Da Cv l:=by
 induction l with
 |nil=>rw [Ct];rfl
 |cons x k ih=>rw [Ct,ih];rfl
theorem Aat(x:Ab):Cv x=1+(x.Name.size+1)+(x.Of.size+1)+Cn x.E+Cn x.F+(Da Cn x.Args+1)+K4 x.Dist+1+(Da Cv x.Body+1)+(Da Cv x.Else+1)+1:=by
 cases x with|mk a0 a1 a2 a3 a4 a5 a6 a7 a8 a9=>simp only [Cv,Hp,Ab.Op,Ab.Name,Ab.Of,Ab.E,Ab.F,Ab.Args,Ab.Dist,Ab.Flag,Ab.Body,Ab.Else]
def Gl(x:Bg):Nat:=(x.Name.size+1)+(Da Iw x.Params+1)+(Da Iw x.Locals+1)+(Da Cv x.Body+1)+1
def Tb(x:Hg):Nat:=(x.Routine.size+1)+(Da (fun(z:Int)=>1) x.Args+1)+1+1+1+1
def Hx(x:Bx):Nat:=(x.Name.size+1)+1+1+1
def Hq(x:Bp):Nat:=(x.Name.size+1)+1+1+1
def C3(x:Ac):Nat:=(x.Name.size+1)+(Da Hq x.Vars+1)+(Da Fs x.Resources+1)+(Da Hx x.Stores+1)+(Da I6 x.Belts+1)+(Da (fun(z:ByteArray)=>(z.size+1)) x.Queues+1)+(Da (fun(z:ByteArray)=>(z.size+1)) x.Streams+1)+(Da (fun(z:ByteArray)=>(z.size+1)) x.Tallies+1)+(Da (fun(z:ByteArray)=>(z.size+1)) x.Levels+1)+(Da (fun(z:ByteArray)=>(z.size+1)) x.Counts+1)+(Da Gl x.Routines+1)+(Da Tb x.Starts+1)+(Da Vp x.Laws+1)+1
def Ga(x:Af):Nat:=(x.Name.size+1)+(Da Hq x.Params+1)+(Da C3 x.Sites+1)+(Da Rh x.Links+1)+1
def Rg(x:Mq):Nat:=Ga x.M+1+(Da Iw x.Locals+1)+(Da Cv x.A+1)+(Da Cv x.B+1)+1
def Ada(x:Ai):Nat:=(Da Hq x.Params+1)+(Da Iw x.Locals+1)+C3 x.Site+1
theorem Blv(n:Nat)(y:Bp)(b:Nat)(h:Dk Tryz.prog n 72 (Ws y) b):Hq y≤b:=by
 obtain ⟨m,b0,_,hb,h⟩:=Oi Tryz.underlying72 h
 change P7 (Dk Tryz.prog m) [9,41,3] (Ws y) b0 at h
 obtain ⟨c0,d0,e0,g0,h⟩:=Bb (Km Tryz.underlying9 m) h
 obtain ⟨c1,d1,e1,g1,h⟩:=Bb (F5 Tryz.underlying41 m) h
 obtain ⟨c2,d2,e2,g2,h⟩:=Bb (F5 Tryz.underlying3 m) h
 have q0:(y.Name.size+1)≤c0:=I2 Tryz.underlying9 g0
 have q1:1≤c1:=Es g1
 have q2:1≤c2:=Es g2
 unfold Hq
 omega
theorem Baq(n:Nat)(x:(List Bp))(b:Nat)(h:Dk Tryz.prog n 22 [.lst false (.t72 x)] b):(Da Hq x+1)≤b:=by
 obtain ⟨m,f,_,h1,h2⟩:=M1 Tryz.underlying22 h
 have:=Gd (row:=Aia) (Q:=Dk Tryz.prog m 72) (g:=Hq) (fun y b h=>Blv _ y b h) (l:=x) (f:=f) h2
 change Qt f x.length+1≤b at h1
 omega
theorem Blu(n:Nat)(y:Be)(b:Nat)(h:Dk Tryz.prog n 68 (Wq y) b):Iw y≤b:=by
 obtain ⟨m,b0,_,hb,h⟩:=Oi Tryz.underlying68 h
 change P7 (Dk Tryz.prog m) [9,41] (Wq y) b0 at h
 obtain ⟨c0,d0,e0,g0,h⟩:=Bb (Km Tryz.underlying9 m) h
 obtain ⟨c1,d1,e1,g1,h⟩:=Bb (F5 Tryz.underlying41 m) h
 have q0:(y.Name.size+1)≤c0:=I2 Tryz.underlying9 g0
 have q1:1≤c1:=Es g1
 unfold Iw
 omega
theorem A21(n:Nat)(x:(List Be))(b:Nat)(h:Dk Tryz.prog n 23 [.lst false (.t68 x)] b):(Da Iw x+1)≤b:=by
 obtain ⟨m,f,_,h1,h2⟩:=M1 Tryz.underlying23 h
 have:=Gd (row:=Ah9) (Q:=Dk Tryz.prog m 68) (g:=Iw) (fun y b h=>Blu _ y b h) (l:=x) (f:=f) h2
 change Qt f x.length+1≤b at h1
 omega
theorem Bbk(n:Nat)(y:F6)(b:Nat)(h:Dk Tryz.prog n 228 (U7 y) b):R8 y≤b:=by
 obtain ⟨m,b0,_,hb,h⟩:=Oi Tryz.underlying228 h
 change P7 (Dk Tryz.prog m) [3,3] (U7 y) b0 at h
 obtain ⟨c0,d0,e0,g0,h⟩:=Bb (F5 Tryz.underlying3 m) h
 obtain ⟨c1,d1,e1,g1,h⟩:=Bb (F5 Tryz.underlying3 m) h
 have q0:1≤c0:=Es g0
 have q1:1≤c1:=Es g1
 unfold R8
 omega
theorem Bbb(n:Nat)(x:(List F6))(b:Nat)(h:Dk Tryz.prog n 145 [.lst false (.t228 x)] b):(Da R8 x+1)≤b:=by
 obtain ⟨m,f,_,h1,h2⟩:=M1 Tryz.underlying145 h
 have:=Gd (row:=Abv) (Q:=Dk Tryz.prog m 228) (g:=R8) (fun y b h=>Bbk _ y b h) (l:=x) (f:=f) h2
 change Qt f x.length+1≤b at h1
 omega
theorem A24(n:Nat)(x:(List Int))(b:Nat)(h:Dk Tryz.prog n 78 [.lst false (.t3 x)] b):(Da (fun(z:Int)=>1) x+1)≤b:=by
 obtain ⟨m,f,_,h1,h2⟩:=M1 Tryz.underlying78 h
 have:=Gd (row:=Axe) (Q:=Dk Tryz.prog m 3) (g:=(fun(z:Int)=>1)) (fun y b h=>Es h) (l:=x) (f:=f) h2
 change Qt f x.length+1≤b at h1
 omega
theorem A25(n:Nat)(y:Bo)(b:Nat)(h:Dk Tryz.prog n 80 (C9 y) b):K4 y≤b:=by
 obtain ⟨m,b0,_,hb,h⟩:=Oi Tryz.underlying80 h
 change P7 (Dk Tryz.prog m) [77,3,3,3,78,78] (C9 y) b0 at h
 obtain ⟨c0,d0,e0,g0,h⟩:=Bb (F5 Tryz.underlying77 m) h
 obtain ⟨c1,d1,e1,g1,h⟩:=Bb (F5 Tryz.underlying3 m) h
 obtain ⟨c2,d2,e2,g2,h⟩:=Bb (F5 Tryz.underlying3 m) h
 obtain ⟨c3,d3,e3,g3,h⟩:=Bb (F5 Tryz.underlying3 m) h
 obtain ⟨c4,d4,e4,g4,h⟩:=Bb (Ib Tryz.underlying78 m) h
 obtain ⟨c5,d5,e5,g5,h⟩:=Bb (Ib Tryz.underlying78 m) h
 have q0:1≤c0:=Es g0
 have q1:1≤c1:=Es g1
 have q2:1≤c2:=Es g2
 have q3:1≤c3:=Es g3
 have q4:(Da (fun(z:Int)=>1) y.Values+1)≤c4:=A24 m _ _ g4
 have q5:(Da (fun(z:Int)=>1) y.Weights+1)≤c5:=A24 m _ _ g5
 unfold K4
 omega
theorem Bbc(n:Nat)(y:T1)(b:Nat)(h:Dk Tryz.prog n 147 (Wp y) b):Xq y≤b:=by
 obtain ⟨m,b0,_,hb,h⟩:=Oi Tryz.underlying147 h
 change P7 (Dk Tryz.prog m) [9,80,80] (Wp y) b0 at h
 obtain ⟨c0,d0,e0,g0,h⟩:=Bb (Km Tryz.underlying9 m) h
 obtain ⟨c1,d1,e1,g1,h⟩:=Bb (w80 m) h
 obtain ⟨c2,d2,e2,g2,h⟩:=Bb (w80 m) h
 have q0:(y.Stream.size+1)≤c0:=I2 Tryz.underlying9 g0
 have q1:K4 y.Up≤c1:=A25 m _ _ g1
 have q2:K4 y.Down≤c2:=A25 m _ _ g2
 unfold Xq
 omega
theorem Bbd(n:Nat)(y:Bf)(b:Nat)(h:Dk Tryz.prog n 149 (Ns y) b):Fs y≤b:=by
 obtain ⟨m,b0,_,hb,h⟩:=Oi Tryz.underlying149 h
 change P7 (Dk Tryz.prog m) [9,3,145,3,147] (Ns y) b0 at h
 obtain ⟨c0,d0,e0,g0,h⟩:=Bb (Km Tryz.underlying9 m) h
 obtain ⟨c1,d1,e1,g1,h⟩:=Bb (F5 Tryz.underlying3 m) h
 obtain ⟨c2,d2,e2,g2,h⟩:=Bb (Ib Tryz.underlying145 m) h
 obtain ⟨c3,d3,e3,g3,h⟩:=Bb (F5 Tryz.underlying3 m) h
 obtain ⟨c4,d4,e4,g4,h⟩:=Bb (Bq3 m) h
 have q0:(y.Name.size+1)≤c0:=I2 Tryz.underlying9 g0
 have q1:1≤c1:=Es g1
 have q2:(Da R8 y.Shift+1)≤c2:=Bbb m _ _ g2
 have q3:1≤c3:=Es g3
 have q4:Xq y.Fault≤c4:=Bbc m _ _ g4
 unfold Fs
 omega
theorem Blj(n:Nat)(x:(List Bf))(b:Nat)(h:Dk Tryz.prog n 24 [.lst false (.t149 x)] b):(Da Fs x+1)≤b:=by
 obtain ⟨m,f,_,h1,h2⟩:=M1 Tryz.underlying24 h
 have:=Gd (row:=Abp) (Q:=Dk Tryz.prog m 149) (g:=Fs) (fun y b h=>Bbd _ y b h) (l:=x) (f:=f) h2
 change Qt f x.length+1≤b at h1
 omega
theorem Bbe(n:Nat)(y:Bx)(b:Nat)(h:Dk Tryz.prog n 156 (Rw y) b):Hx y≤b:=by
 obtain ⟨m,b0,_,hb,h⟩:=Oi Tryz.underlying156 h
 change P7 (Dk Tryz.prog m) [9,3,154] (Rw y) b0 at h
 obtain ⟨c0,d0,e0,g0,h⟩:=Bb (Km Tryz.underlying9 m) h
 obtain ⟨c1,d1,e1,g1,h⟩:=Bb (F5 Tryz.underlying3 m) h
 obtain ⟨c2,d2,e2,g2,h⟩:=Bb (F5 Tryz.underlying154 m) h
 have q0:(y.Name.size+1)≤c0:=I2 Tryz.underlying9 g0
 have q1:1≤c1:=Es g1
 have q2:1≤c2:=Es g2
 unfold Hx
 omega
theorem Blk(n:Nat)(x:(List Bx))(b:Nat)(h:Dk Tryz.prog n 25 [.lst false (.t156 x)] b):(Da Hx x+1)≤b:=by
 obtain ⟨m,f,_,h1,h2⟩:=M1 Tryz.underlying25 h
 have:=Gd (row:=Abq) (Q:=Dk Tryz.prog m 156) (g:=Hx) (fun y b h=>Bbe _ y b h) (l:=x) (f:=f) h2
 change Qt f x.length+1≤b at h1
 omega
theorem Bbf(n:Nat)(y:B3)(b:Nat)(h:Dk Tryz.prog n 160 (S3 y) b):I6 y≤b:=by
 obtain ⟨m,b0,_,hb,h⟩:=Oi Tryz.underlying160 h
 change P7 (Dk Tryz.prog m) [9,3,3] (S3 y) b0 at h
 obtain ⟨c0,d0,e0,g0,h⟩:=Bb (Km Tryz.underlying9 m) h
 obtain ⟨c1,d1,e1,g1,h⟩:=Bb (F5 Tryz.underlying3 m) h
 obtain ⟨c2,d2,e2,g2,h⟩:=Bb (F5 Tryz.underlying3 m) h
 have q0:(y.Name.size+1)≤c0:=I2 Tryz.underlying9 g0
 have q1:1≤c1:=Es g1
 have q2:1≤c2:=Es g2
 unfold I6
 omega
theorem Bll(n:Nat)(x:(List B3))(b:Nat)(h:Dk Tryz.prog n 26 [.lst false (.t160 x)] b):(Da I6 x+1)≤b:=by
 obtain ⟨m,f,_,h1,h2⟩:=M1 Tryz.underlying26 h
 have:=Gd (row:=Abr) (Q:=Dk Tryz.prog m 160) (g:=I6) (fun y b h=>Bbf _ y b h) (l:=x) (f:=f) h2
 change Qt f x.length+1≤b at h1
 omega
theorem Avk(n:Nat)(x:(List ByteArray))(b:Nat)(h:Dk Tryz.prog n 27 [.lst false (.t9 x)] b):(Da (fun(z:ByteArray)=>(z.size+1)) x+1)≤b:=by
 obtain ⟨m,f,_,h1,h2⟩:=M1 Tryz.underlying27 h
 have:=Gd (row:=Axf) (Q:=Dk Tryz.prog m 9) (g:=(fun(z:ByteArray)=>(z.size+1))) (fun y b h=>I2 Tryz.underlying9 h) (l:=x) (f:=f) h2
 change Qt f x.length+1≤b at h1
 omega
theorem Blh:∀n,(∀(y:Aa) (b:Nat),Dk Tryz.prog n 38 (Ay y) b→Cn y≤b):=by
 intro n
 induction n using Nat.strongRecOn with
 |_ n ih=>
 refine ?_
 ·intro y b h
  obtain ⟨m,b0,hm,hb,h⟩:=Oi Tryz.underlying38 h
  change P7 (Dk Tryz.prog m) [35,9,3,36] (Ay y) b0 at h
  rw [Ak3]
  cases y with
  |mk a0 a1 a2 a3=>
  obtain ⟨c0,d0,e0,g0,h⟩:=Bb (F5 Tryz.underlying35 m) h
  obtain ⟨c1,d1,e1,g1,h⟩:=Bb (Km Tryz.underlying9 m) h
  obtain ⟨c2,d2,e2,g2,h⟩:=Bb (F5 Tryz.underlying3 m) h
  obtain ⟨c3,d3,e3,g3,h⟩:=Bb (Ib Tryz.underlying36 m) h
  have q0:1≤c0:=Es g0
  have q1:(a1.size+1)≤c1:=I2 Tryz.underlying9 g1
  have q2:1≤c2:=Es g2
  have q3:Da Cn a3+1≤c3:=by
   obtain ⟨m2,f,hm2,h1,h2⟩:=M1 Tryz.underlying36 g3
   have:=Gd (row:=Ac4) (Q:=Dk Tryz.prog m2 38) (g:=Cn) (fun y b h=>(ih m2 (by omega)) y b h) (l:=a3) (f:=f) h2
   change Qt f a3.length+1≤c3 at h1
   omega
  simp only [Aa.Op,Aa.Name,Aa.N,Aa.Kids]
  omega
theorem A22(n:Nat)(y:Aa)(b:Nat)(h:Dk Tryz.prog n 38 (Ay y) b):Cn y≤b:=(Blh n) y b h
theorem Blq(n:Nat)(x:(List Aa))(b:Nat)(h:Dk Tryz.prog n 36 [.lst false (.t38 x)] b):(Da Cn x+1)≤b:=by
 obtain ⟨m,f,_,h1,h2⟩:=M1 Tryz.underlying36 h
 have:=Gd (row:=Ac4) (Q:=Dk Tryz.prog m 38) (g:=Cn) (fun y b h=>A22 _ y b h) (l:=x) (f:=f) h2
 change Qt f x.length+1≤b at h1
 omega
theorem Bli:∀n,(∀(y:Ab) (b:Nat),Dk Tryz.prog n 82 (B2 y) b→Cv y≤b):=by
 intro n
 induction n using Nat.strongRecOn with
 |_ n ih=>
 refine ?_
 ·intro y b h
  obtain ⟨m,b0,hm,hb,h⟩:=Oi Tryz.underlying82 h
  change P7 (Dk Tryz.prog m) [76,9,9,38,38,36,80,4,52,52] (B2 y) b0 at h
  rw [Aat]
  cases y with
  |mk a0 a1 a2 a3 a4 a5 a6 a7 a8 a9=>
  obtain ⟨c0,d0,e0,g0,h⟩:=Bb (F5 Tryz.underlying76 m) h
  obtain ⟨c1,d1,e1,g1,h⟩:=Bb (Km Tryz.underlying9 m) h
  obtain ⟨c2,d2,e2,g2,h⟩:=Bb (Km Tryz.underlying9 m) h
  obtain ⟨c3,d3,e3,g3,h⟩:=Bb (w38 m) h
  obtain ⟨c4,d4,e4,g4,h⟩:=Bb (w38 m) h
  obtain ⟨c5,d5,e5,g5,h⟩:=Bb (Ib Tryz.underlying36 m) h
  obtain ⟨c6,d6,e6,g6,h⟩:=Bb (w80 m) h
  obtain ⟨c7,d7,e7,g7,h⟩:=Bb (A60 Tryz.underlying4 m) h
  obtain ⟨c8,d8,e8,g8,h⟩:=Bb (Ib Tryz.underlying52 m) h
  obtain ⟨c9,d9,e9,g9,h⟩:=Bb (Ib Tryz.underlying52 m) h
  have q0:1≤c0:=Es g0
  have q1:(a1.size+1)≤c1:=I2 Tryz.underlying9 g1
  have q2:(a2.size+1)≤c2:=I2 Tryz.underlying9 g2
  have q3:Cn a3≤c3:=A22 m _ _ g3
  have q4:Cn a4≤c4:=A22 m _ _ g4
  have q5:(Da Cn a5+1)≤c5:=Blq m _ _ g5
  have q6:K4 a6≤c6:=A25 m _ _ g6
  have q7:1≤c7:=Es g7
  have q8:Da Cv a8+1≤c8:=by
   obtain ⟨m2,f,hm2,h1,h2⟩:=M1 Tryz.underlying52 g8
   have:=Gd (row:=Aac) (Q:=Dk Tryz.prog m2 82) (g:=Cv) (fun y b h=>(ih m2 (by omega)) y b h) (l:=a8) (f:=f) h2
   change Qt f a8.length+1≤c8 at h1
   omega
  have q9:Da Cv a9+1≤c9:=by
   obtain ⟨m2,f,hm2,h1,h2⟩:=M1 Tryz.underlying52 g9
   have:=Gd (row:=Aac) (Q:=Dk Tryz.prog m2 82) (g:=Cv) (fun y b h=>(ih m2 (by omega)) y b h) (l:=a9) (f:=f) h2
   change Qt f a9.length+1≤c9 at h1
   omega
  simp only [Ab.Op,Ab.Name,Ab.Of,Ab.E,Ab.F,Ab.Args,Ab.Dist,Ab.Flag,Ab.Body,Ab.Else]
  omega
theorem Blx(n:Nat)(y:Ab)(b:Nat)(h:Dk Tryz.prog n 82 (B2 y) b):Cv y≤b:=(Bli n) y b h
theorem A23(n:Nat)(x:(List Ab))(b:Nat)(h:Dk Tryz.prog n 52 [.lst false (.t82 x)] b):(Da Cv x+1)≤b:=by
 obtain ⟨m,f,_,h1,h2⟩:=M1 Tryz.underlying52 h
 have:=Gd (row:=Aac) (Q:=Dk Tryz.prog m 82) (g:=Cv) (fun y b h=>Blx _ y b h) (l:=x) (f:=f) h2
 change Qt f x.length+1≤b at h1
 omega
theorem Blw(n:Nat)(y:Bg)(b:Nat)(h:Dk Tryz.prog n 74 (Hk y) b):Gl y≤b:=by
 obtain ⟨m,b0,_,hb,h⟩:=Oi Tryz.underlying74 h
 change P7 (Dk Tryz.prog m) [9,23,23,52] (Hk y) b0 at h
 obtain ⟨c0,d0,e0,g0,h⟩:=Bb (Km Tryz.underlying9 m) h
 obtain ⟨c1,d1,e1,g1,h⟩:=Bb (Ib Tryz.underlying23 m) h
 obtain ⟨c2,d2,e2,g2,h⟩:=Bb (Ib Tryz.underlying23 m) h
 obtain ⟨c3,d3,e3,g3,h⟩:=Bb (Ib Tryz.underlying52 m) h
 have q0:(y.Name.size+1)≤c0:=I2 Tryz.underlying9 g0
 have q1:(Da Iw y.Params+1)≤c1:=A21 m _ _ g1
 have q2:(Da Iw y.Locals+1)≤c2:=A21 m _ _ g2
 have q3:(Da Cv y.Body+1)≤c3:=A23 m _ _ g3
 unfold Gl
 omega
theorem Blm(n:Nat)(x:(List Bg))(b:Nat)(h:Dk Tryz.prog n 28 [.lst false (.t74 x)] b):(Da Gl x+1)≤b:=by
 obtain ⟨m,f,_,h1,h2⟩:=M1 Tryz.underlying28 h
 have:=Gd (row:=Aib) (Q:=Dk Tryz.prog m 74) (g:=Gl) (fun y b h=>Blw _ y b h) (l:=x) (f:=f) h2
 change Qt f x.length+1≤b at h1
 omega
theorem Bbg(n:Nat)(y:Hg)(b:Nat)(h:Dk Tryz.prog n 166 (Wr y) b):Tb y≤b:=by
 obtain ⟨m,b0,_,hb,h⟩:=Oi Tryz.underlying166 h
 change P7 (Dk Tryz.prog m) [9,78,3,3,3] (Wr y) b0 at h
 obtain ⟨c0,d0,e0,g0,h⟩:=Bb (Km Tryz.underlying9 m) h
 obtain ⟨c1,d1,e1,g1,h⟩:=Bb (Ib Tryz.underlying78 m) h
 obtain ⟨c2,d2,e2,g2,h⟩:=Bb (F5 Tryz.underlying3 m) h
 obtain ⟨c3,d3,e3,g3,h⟩:=Bb (F5 Tryz.underlying3 m) h
 obtain ⟨c4,d4,e4,g4,h⟩:=Bb (F5 Tryz.underlying3 m) h
 have q0:(y.Routine.size+1)≤c0:=I2 Tryz.underlying9 g0
 have q1:(Da (fun(z:Int)=>1) y.Args+1)≤c1:=A24 m _ _ g1
 have q2:1≤c2:=Es g2
 have q3:1≤c3:=Es g3
 have q4:1≤c4:=Es g4
 unfold Tb
 omega
theorem Bln(n:Nat)(x:(List Hg))(b:Nat)(h:Dk Tryz.prog n 29 [.lst false (.t166 x)] b):(Da Tb x+1)≤b:=by
 obtain ⟨m,f,_,h1,h2⟩:=M1 Tryz.underlying29 h
 have:=Gd (row:=Abs) (Q:=Dk Tryz.prog m 166) (g:=Tb) (fun y b h=>Bbg _ y b h) (l:=x) (f:=f) h2
 change Qt f x.length+1≤b at h1
 omega
theorem Bbl(n:Nat)(y:Jz)(b:Nat)(h:Dk Tryz.prog n 234 (Yj y) b):T2 y≤b:=by
 obtain ⟨m,b0,_,hb,h⟩:=Oi Tryz.underlying234 h
 change P7 (Dk Tryz.prog m) [3,9,9] (Yj y) b0 at h
 obtain ⟨c0,d0,e0,g0,h⟩:=Bb (F5 Tryz.underlying3 m) h
 obtain ⟨c1,d1,e1,g1,h⟩:=Bb (Km Tryz.underlying9 m) h
 obtain ⟨c2,d2,e2,g2,h⟩:=Bb (Km Tryz.underlying9 m) h
 have q0:1≤c0:=Es g0
 have q1:(y.What.size+1)≤c1:=I2 Tryz.underlying9 g1
 have q2:(y.Name.size+1)≤c2:=I2 Tryz.underlying9 g2
 unfold T2
 omega
theorem Bbi(n:Nat)(x:(List Jz))(b:Nat)(h:Dk Tryz.prog n 182 [.lst false (.t234 x)] b):(Da T2 x+1)≤b:=by
 obtain ⟨m,f,_,h1,h2⟩:=M1 Tryz.underlying182 h
 have:=Gd (row:=Abw) (Q:=Dk Tryz.prog m 234) (g:=T2) (fun y b h=>Bbl _ y b h) (l:=x) (f:=f) h2
 change Qt f x.length+1≤b at h1
 omega
theorem Bbj(n:Nat)(y:Oh)(b:Nat)(h:Dk Tryz.prog n 184 (k5 y) b):Vp y≤b:=by
 obtain ⟨m,b0,_,hb,h⟩:=Oi Tryz.underlying184 h
 change P7 (Dk Tryz.prog m) [9,182,3] (k5 y) b0 at h
 obtain ⟨c0,d0,e0,g0,h⟩:=Bb (Km Tryz.underlying9 m) h
 obtain ⟨c1,d1,e1,g1,h⟩:=Bb (Ib Tryz.underlying182 m) h
 obtain ⟨c2,d2,e2,g2,h⟩:=Bb (F5 Tryz.underlying3 m) h
 have q0:(y.Name.size+1)≤c0:=I2 Tryz.underlying9 g0
 have q1:(Da T2 y.Terms+1)≤c1:=Bbi m _ _ g1
 have q2:1≤c2:=Es g2
 unfold Vp
 omega
theorem Blo(n:Nat)(x:(List Oh))(b:Nat)(h:Dk Tryz.prog n 30 [.lst false (.t184 x)] b):(Da Vp x+1)≤b:=by
 obtain ⟨m,f,_,h1,h2⟩:=M1 Tryz.underlying30 h
 have:=Gd (row:=Abu) (Q:=Dk Tryz.prog m 184) (g:=Vp) (fun y b h=>Bbj _ y b h) (l:=x) (f:=f) h2
 change Qt f x.length+1≤b at h1
 omega
theorem Blp(n:Nat)(y:Ac)(b:Nat)(h:Dk Tryz.prog n 32 (Bk y) b):C3 y≤b:=by
 obtain ⟨m,b0,_,hb,h⟩:=Oi Tryz.underlying32 h
 change P7 (Dk Tryz.prog m) [9,22,24,25,26,27,27,27,27,27,28,29,30] (Bk y) b0 at h
 obtain ⟨c0,d0,e0,g0,h⟩:=Bb (Km Tryz.underlying9 m) h
 obtain ⟨c1,d1,e1,g1,h⟩:=Bb (Ib Tryz.underlying22 m) h
 obtain ⟨c2,d2,e2,g2,h⟩:=Bb (Ib Tryz.underlying24 m) h
 obtain ⟨c3,d3,e3,g3,h⟩:=Bb (Ib Tryz.underlying25 m) h
 obtain ⟨c4,d4,e4,g4,h⟩:=Bb (Ib Tryz.underlying26 m) h
 obtain ⟨c5,d5,e5,g5,h⟩:=Bb (Ib Tryz.underlying27 m) h
 obtain ⟨c6,d6,e6,g6,h⟩:=Bb (Ib Tryz.underlying27 m) h
 obtain ⟨c7,d7,e7,g7,h⟩:=Bb (Ib Tryz.underlying27 m) h
 obtain ⟨c8,d8,e8,g8,h⟩:=Bb (Ib Tryz.underlying27 m) h
 obtain ⟨c9,d9,e9,g9,h⟩:=Bb (Ib Tryz.underlying27 m) h
 obtain ⟨c10,d10,e10,g10,h⟩:=Bb (Ib Tryz.underlying28 m) h
 obtain ⟨c11,d11,e11,g11,h⟩:=Bb (Ib Tryz.underlying29 m) h
 obtain ⟨c12,d12,e12,g12,h⟩:=Bb (Ib Tryz.underlying30 m) h
 have q0:(y.Name.size+1)≤c0:=I2 Tryz.underlying9 g0
 have q1:(Da Hq y.Vars+1)≤c1:=Baq m _ _ g1
 have q2:(Da Fs y.Resources+1)≤c2:=Blj m _ _ g2
 have q3:(Da Hx y.Stores+1)≤c3:=Blk m _ _ g3
 have q4:(Da I6 y.Belts+1)≤c4:=Bll m _ _ g4
 have q5:(Da (fun(z:ByteArray)=>(z.size+1)) y.Queues+1)≤c5:=Avk m _ _ g5
 have q6:(Da (fun(z:ByteArray)=>(z.size+1)) y.Streams+1)≤c6:=Avk m _ _ g6
 have q7:(Da (fun(z:ByteArray)=>(z.size+1)) y.Tallies+1)≤c7:=Avk m _ _ g7
 have q8:(Da (fun(z:ByteArray)=>(z.size+1)) y.Levels+1)≤c8:=Avk m _ _ g8
 have q9:(Da (fun(z:ByteArray)=>(z.size+1)) y.Counts+1)≤c9:=Avk m _ _ g9
 have q10:(Da Gl y.Routines+1)≤c10:=Blm m _ _ g10
 have q11:(Da Tb y.Starts+1)≤c11:=Bln m _ _ g11
 have q12:(Da Vp y.Laws+1)≤c12:=Blo m _ _ g12
 unfold C3
 omega
theorem Blr(n:Nat)(x:(List Ac))(b:Nat)(h:Dk Tryz.prog n 48 [.lst false (.t32 x)] b):(Da C3 x+1)≤b:=by
 obtain ⟨m,f,_,h1,h2⟩:=M1 Tryz.underlying48 h
 have:=Gd (row:=Ah8) (Q:=Dk Tryz.prog m 32) (g:=C3) (fun y b h=>Blp _ y b h) (l:=x) (f:=f) h2
 change Qt f x.length+1≤b at h1
 omega
theorem Bbh(n:Nat)(y:Cq)(b:Nat)(h:Dk Tryz.prog n 172 (Yi y) b):Rh y≤b:=by
 obtain ⟨m,b0,_,hb,h⟩:=Oi Tryz.underlying172 h
 change P7 (Dk Tryz.prog m) [9,9,3] (Yi y) b0 at h
 obtain ⟨c0,d0,e0,g0,h⟩:=Bb (Km Tryz.underlying9 m) h
 obtain ⟨c1,d1,e1,g1,h⟩:=Bb (Km Tryz.underlying9 m) h
 obtain ⟨c2,d2,e2,g2,h⟩:=Bb (F5 Tryz.underlying3 m) h
 have q0:(y.From.size+1)≤c0:=I2 Tryz.underlying9 g0
 have q1:(y.To.size+1)≤c1:=I2 Tryz.underlying9 g1
 have q2:1≤c2:=Es g2
 unfold Rh
 omega
theorem Bls(n:Nat)(x:(List Cq))(b:Nat)(h:Dk Tryz.prog n 49 [.lst false (.t172 x)] b):(Da Rh x+1)≤b:=by
 obtain ⟨m,f,_,h1,h2⟩:=M1 Tryz.underlying49 h
 have:=Gd (row:=Abt) (Q:=Dk Tryz.prog m 172) (g:=Rh) (fun y b h=>Bbh _ y b h) (l:=x) (f:=f) h2
 change Qt f x.length+1≤b at h1
 omega
theorem Blt(n:Nat)(y:Af)(b:Nat)(h:Dk Tryz.prog n 51 (Bz y) b):Ga y≤b:=by
 obtain ⟨m,b0,_,hb,h⟩:=Oi Tryz.underlying51 h
 change P7 (Dk Tryz.prog m) [9,22,48,49] (Bz y) b0 at h
 obtain ⟨c0,d0,e0,g0,h⟩:=Bb (Km Tryz.underlying9 m) h
 obtain ⟨c1,d1,e1,g1,h⟩:=Bb (Ib Tryz.underlying22 m) h
 obtain ⟨c2,d2,e2,g2,h⟩:=Bb (Ib Tryz.underlying48 m) h
 obtain ⟨c3,d3,e3,g3,h⟩:=Bb (Ib Tryz.underlying49 m) h
 have q0:(y.Name.size+1)≤c0:=I2 Tryz.underlying9 g0
 have q1:(Da Hq y.Params+1)≤c1:=Baq m _ _ g1
 have q2:(Da C3 y.Sites+1)≤c2:=Blr m _ _ g2
 have q3:(Da Rh y.Links+1)≤c3:=Bls m _ _ g3
 unfold Ga
 omega
theorem Bar(n:Nat)(y:Mq)(b:Nat)(h:Dk Tryz.prog n 54 (Rn y) b):Rg y≤b:=by
 obtain ⟨m,b0,_,hb,h⟩:=Oi Tryz.underlying54 h
 change P7 (Dk Tryz.prog m) [51,3,23,52,52] (Rn y) b0 at h
 obtain ⟨c0,d0,e0,g0,h⟩:=Bb (w51 m) h
 obtain ⟨c1,d1,e1,g1,h⟩:=Bb (F5 Tryz.underlying3 m) h
 obtain ⟨c2,d2,e2,g2,h⟩:=Bb (Ib Tryz.underlying23 m) h
 obtain ⟨c3,d3,e3,g3,h⟩:=Bb (Ib Tryz.underlying52 m) h
 obtain ⟨c4,d4,e4,g4,h⟩:=Bb (Ib Tryz.underlying52 m) h
 have q0:Ga y.M≤c0:=Blt m _ _ g0
 have q1:1≤c1:=Es g1
 have q2:(Da Iw y.Locals+1)≤c2:=A21 m _ _ g2
 have q3:(Da Cv y.A+1)≤c3:=A23 m _ _ g3
 have q4:(Da Cv y.B+1)≤c4:=A23 m _ _ g4
 unfold Rg
 omega
end Go.Proofs.YtcbandfdmbkokaaGreat.Ev
