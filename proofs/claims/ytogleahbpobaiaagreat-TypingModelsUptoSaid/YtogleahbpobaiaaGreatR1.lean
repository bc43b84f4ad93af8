/-  What is read: its bulk. -/
import Derived.Test.YtogleahbpobaiaaGreatR0
import Derived.Test.YtogleahbpobaiaaGreatFz
namespace Go.Proofs.YtogleahbpobaiaaGreat.Ev
open Go An
set_option maxRecDepth 100000
set_option maxHeartbeats 4000000
set_option linter.unusedVariables false
set_option linter.unusedSimpArgs false
set_option linter.unnecessarySimpa false
mutual
def Co:Ab→Nat
 | .mk a0 a1 a2 a3=>1+(a1.size+1)+1+(Tb a3+1)+1
def Tb:List Ab→Nat
 | []=>0
 |x::k=>Co x+Tb k
end
theorem Azy(l:List Ab):Tb l=Db Co l:=by
 induction l with
 |nil=>rw [Tb];rfl
 |cons x k ih=>rw [Tb,ih];rfl
theorem A2u(x:Ab):Co x=1+(x.Name.size+1)+1+(Db Co x.Kids+1)+1:=by
 cases x with|mk a0 a1 a2 a3=>simp only [Co,Azy,Ab.Op,Ab.Name,Ab.N,Ab.Kids]
def Jm(x:Ar):Nat:=(x.Name.size+1)+1+1+1
def Ue(x:Cu):Nat:=1+1+1
def Ik(x:Bf):Nat:=1+1+1+1+(Db (fun(z:Int)=>1) x.Values+1)+(Db (fun(z:Int)=>1) x.Weights+1)+1
def Gu(x:Ao):Nat:=(x.Name.size+1)+1+1
def m5(x:Au):Nat:=1+(x.What.size+1)+(x.Name.size+1)+1
def Acp(x:Ax):Nat:=(x.Name.size+1)+(Db m5 x.Terms+1)+1+1
def Ku(x:F4):Nat:=(x.Stream.size+1)+Ik x.Up+Ik x.Down+1
def Dj(x:Af):Nat:=(x.Name.size+1)+1+(Db Ue x.Shift+1)+1+Ku x.Fault+1
mutual
def C9:Ac→Nat
 | .mk a0 a1 a2 a3 a4 a5 a6 a7 a8 a9=>1+(a1.size+1)+(a2.size+1)+Co a3+Co a4+(Db Co a5+1)+Ik a6+1+(D0 a8+1)+(D0 a9+1)+1
def D0:List Ac→Nat
 | []=>0
 |x::k=>C9 x+D0 k
end
theorem L3(l:List Ac):D0 l=Db C9 l:=by
 induction l with
 |nil=>rw [D0];rfl
 |cons x k ih=>rw [D0,ih];rfl
theorem Ap7(x:Ac):C9 x=1+(x.Name.size+1)+(x.Of.size+1)+Co x.E+Co x.F+(Db Co x.Args+1)+Ik x.Dist+1+(Db C9 x.Body+1)+(Db C9 x.Else+1)+1:=by
 cases x with|mk a0 a1 a2 a3 a4 a5 a6 a7 a8 a9=>simp only [C9,L3,Ac.Op,Ac.Name,Ac.Of,Ac.E,Ac.F,Ac.Args,Ac.Dist,Ac.Flag,Ac.Body,Ac.Else]
def Cp(x:Ai):Nat:=(x.Name.size+1)+(Db Gu x.Params+1)+(Db Gu x.Locals+1)+(Db C9 x.Body+1)+1
def Wp(x:Bh):Nat:=(x.Routine.size+1)+(Db (fun(z:Int)=>1) x.Args+1)+1+1+1+1
def Il(x:Ap):Nat:=(x.Name.size+1)+1+1+1
def H3(x:Al):Nat:=(x.Name.size+1)+1+1+1
def Cj(x:Aa):Nat:=(x.Name.size+1)+(Db H3 x.Vars+1)+(Db Dj x.Resources+1)+(Db Il x.Stores+1)+(Db Jm x.Belts+1)+(Db (fun(z:ByteArray)=>(z.size+1)) x.Queues+1)+(Db (fun(z:ByteArray)=>(z.size+1)) x.Streams+1)+(Db (fun(z:ByteArray)=>(z.size+1)) x.Tallies+1)+(Db (fun(z:ByteArray)=>(z.size+1)) x.Levels+1)+(Db (fun(z:ByteArray)=>(z.size+1)) x.Counts+1)+(Db Cp x.Routines+1)+(Db Wp x.Starts+1)+(Db Acp x.Laws+1)+1
def Atc(x:Aq):Nat:=(Db H3 x.Params+1)+(Db Gu x.Locals+1)+Cj x.Site+1
def S1(x:Bg):Nat:=(x.From.size+1)+(x.To.size+1)+1+1
def Gb(x:Ad):Nat:=(x.Name.size+1)+(Db H3 x.Params+1)+(Db Cj x.Sites+1)+(Db S1 x.Links+1)+1
theorem Cco(n:Nat)(y:Al)(b:Nat)(h:Ds Tryz.prog n 57 (Bz y) b):H3 y≤b:=by
 obtain ⟨m,b0,_,hb,h⟩:=Qr Tryz.underlying57 h
 change Ry (Ds Tryz.prog m) [9,41,3] (Bz y) b0 at h
 obtain ⟨c0,d0,e0,g0,h⟩:=Aw (Kr Tryz.underlying9 m) h
 obtain ⟨c1,d1,e1,g1,h⟩:=Aw (Gh Tryz.underlying41 m) h
 obtain ⟨c2,d2,e2,g2,h⟩:=Aw (Gh Tryz.underlying3 m) h
 have q0:(y.Name.size+1)≤c0:=Jh Tryz.underlying9 g0
 have q1:1≤c1:=E8 g1
 have q2:1≤c2:=E8 g2
 unfold H3
 omega
theorem B0y(n:Nat)(x:(List Al))(b:Nat)(h:Ds Tryz.prog n 22 [.lst false (.t57 x)] b):(Db H3 x+1)≤b:=by
 obtain ⟨m,f,_,h1,h2⟩:=Nj Tryz.underlying22 h
 have:=Ge (row:=Azq) (Q:=Ds Tryz.prog m 57) (g:=H3) (fun y b h=>Cco _ y b h) (l:=x) (f:=f) h2
 change Sx f x.length+1≤b at h1
 omega
theorem Ccn(n:Nat)(y:Ao)(b:Nat)(h:Ds Tryz.prog n 55 (Nm y) b):Gu y≤b:=by
 obtain ⟨m,b0,_,hb,h⟩:=Qr Tryz.underlying55 h
 change Ry (Ds Tryz.prog m) [9,41] (Nm y) b0 at h
 obtain ⟨c0,d0,e0,g0,h⟩:=Aw (Kr Tryz.underlying9 m) h
 obtain ⟨c1,d1,e1,g1,h⟩:=Aw (Gh Tryz.underlying41 m) h
 have q0:(y.Name.size+1)≤c0:=Jh Tryz.underlying9 g0
 have q1:1≤c1:=E8 g1
 unfold Gu
 omega
theorem B0z(n:Nat)(x:(List Ao))(b:Nat)(h:Ds Tryz.prog n 23 [.lst false (.t55 x)] b):(Db Gu x+1)≤b:=by
 obtain ⟨m,f,_,h1,h2⟩:=Nj Tryz.underlying23 h
 have:=Ge (row:=Azp) (Q:=Ds Tryz.prog m 55) (g:=Gu) (fun y b h=>Ccn _ y b h) (l:=x) (f:=f) h2
 change Sx f x.length+1≤b at h1
 omega
theorem B3g(n:Nat)(y:Cu)(b:Nat)(h:Ds Tryz.prog n 178 (w8 y) b):Ue y≤b:=by
 obtain ⟨m,b0,_,hb,h⟩:=Qr Tryz.underlying178 h
 change Ry (Ds Tryz.prog m) [3,3] (w8 y) b0 at h
 obtain ⟨c0,d0,e0,g0,h⟩:=Aw (Gh Tryz.underlying3 m) h
 obtain ⟨c1,d1,e1,g1,h⟩:=Aw (Gh Tryz.underlying3 m) h
 have q0:1≤c0:=E8 g0
 have q1:1≤c1:=E8 g1
 unfold Ue
 omega
theorem B27(n:Nat)(x:(List Cu))(b:Nat)(h:Ds Tryz.prog n 112 [.lst false (.t178 x)] b):(Db Ue x+1)≤b:=by
 obtain ⟨m,f,_,h1,h2⟩:=Nj Tryz.underlying112 h
 have:=Ge (row:=Ard) (Q:=Ds Tryz.prog m 178) (g:=Ue) (fun y b h=>B3g _ y b h) (l:=x) (f:=f) h2
 change Sx f x.length+1≤b at h1
 omega
theorem Bpu(n:Nat)(x:(List Int))(b:Nat)(h:Ds Tryz.prog n 65 [.lst false (.t3 x)] b):(Db (fun(z:Int)=>1) x+1)≤b:=by
 obtain ⟨m,f,_,h1,h2⟩:=Nj Tryz.underlying65 h
 have:=Ge (row:=Bfb) (Q:=Ds Tryz.prog m 3) (g:=(fun(z:Int)=>1)) (fun y b h=>E8 h) (l:=x) (f:=f) h2
 change Sx f x.length+1≤b at h1
 omega
theorem Bpv(n:Nat)(y:Bf)(b:Nat)(h:Ds Tryz.prog n 67 (Tc y) b):Ik y≤b:=by
 obtain ⟨m,b0,_,hb,h⟩:=Qr Tryz.underlying67 h
 change Ry (Ds Tryz.prog m) [64,3,3,3,65,65] (Tc y) b0 at h
 obtain ⟨c0,d0,e0,g0,h⟩:=Aw (Gh Tryz.underlying64 m) h
 obtain ⟨c1,d1,e1,g1,h⟩:=Aw (Gh Tryz.underlying3 m) h
 obtain ⟨c2,d2,e2,g2,h⟩:=Aw (Gh Tryz.underlying3 m) h
 obtain ⟨c3,d3,e3,g3,h⟩:=Aw (Gh Tryz.underlying3 m) h
 obtain ⟨c4,d4,e4,g4,h⟩:=Aw (K4 Tryz.underlying65 m) h
 obtain ⟨c5,d5,e5,g5,h⟩:=Aw (K4 Tryz.underlying65 m) h
 have q0:1≤c0:=E8 g0
 have q1:1≤c1:=E8 g1
 have q2:1≤c2:=E8 g2
 have q3:1≤c3:=E8 g3
 have q4:(Db (fun(z:Int)=>1) y.Values+1)≤c4:=Bpu m _ _ g4
 have q5:(Db (fun(z:Int)=>1) y.Weights+1)≤c5:=Bpu m _ _ g5
 unfold Ik
 omega
theorem B28(n:Nat)(y:F4)(b:Nat)(h:Ds Tryz.prog n 114 (S2 y) b):Ku y≤b:=by
 obtain ⟨m,b0,_,hb,h⟩:=Qr Tryz.underlying114 h
 change Ry (Ds Tryz.prog m) [9,67,67] (S2 y) b0 at h
 obtain ⟨c0,d0,e0,g0,h⟩:=Aw (Kr Tryz.underlying9 m) h
 obtain ⟨c1,d1,e1,g1,h⟩:=Aw (w67 m) h
 obtain ⟨c2,d2,e2,g2,h⟩:=Aw (w67 m) h
 have q0:(y.Stream.size+1)≤c0:=Jh Tryz.underlying9 g0
 have q1:Ik y.Up≤c1:=Bpv m _ _ g1
 have q2:Ik y.Down≤c2:=Bpv m _ _ g2
 unfold Ku
 omega
theorem B29(n:Nat)(y:Af)(b:Nat)(h:Ds Tryz.prog n 116 (Bo y) b):Dj y≤b:=by
 obtain ⟨m,b0,_,hb,h⟩:=Qr Tryz.underlying116 h
 change Ry (Ds Tryz.prog m) [9,3,112,3,114] (Bo y) b0 at h
 obtain ⟨c0,d0,e0,g0,h⟩:=Aw (Kr Tryz.underlying9 m) h
 obtain ⟨c1,d1,e1,g1,h⟩:=Aw (Gh Tryz.underlying3 m) h
 obtain ⟨c2,d2,e2,g2,h⟩:=Aw (K4 Tryz.underlying112 m) h
 obtain ⟨c3,d3,e3,g3,h⟩:=Aw (Gh Tryz.underlying3 m) h
 obtain ⟨c4,d4,e4,g4,h⟩:=Aw (Chz m) h
 have q0:(y.Name.size+1)≤c0:=Jh Tryz.underlying9 g0
 have q1:1≤c1:=E8 g1
 have q2:(Db Ue y.Shift+1)≤c2:=B27 m _ _ g2
 have q3:1≤c3:=E8 g3
 have q4:Ku y.Fault≤c4:=B28 m _ _ g4
 unfold Dj
 omega
theorem Ccc(n:Nat)(x:(List Af))(b:Nat)(h:Ds Tryz.prog n 24 [.lst false (.t116 x)] b):(Db Dj x+1)≤b:=by
 obtain ⟨m,f,_,h1,h2⟩:=Nj Tryz.underlying24 h
 have:=Ge (row:=Aq7) (Q:=Ds Tryz.prog m 116) (g:=Dj) (fun y b h=>B29 _ y b h) (l:=x) (f:=f) h2
 change Sx f x.length+1≤b at h1
 omega
theorem B3a(n:Nat)(y:Ap)(b:Nat)(h:Ds Tryz.prog n 123 (Cr y) b):Il y≤b:=by
 obtain ⟨m,b0,_,hb,h⟩:=Qr Tryz.underlying123 h
 change Ry (Ds Tryz.prog m) [9,3,121] (Cr y) b0 at h
 obtain ⟨c0,d0,e0,g0,h⟩:=Aw (Kr Tryz.underlying9 m) h
 obtain ⟨c1,d1,e1,g1,h⟩:=Aw (Gh Tryz.underlying3 m) h
 obtain ⟨c2,d2,e2,g2,h⟩:=Aw (Gh Tryz.underlying121 m) h
 have q0:(y.Name.size+1)≤c0:=Jh Tryz.underlying9 g0
 have q1:1≤c1:=E8 g1
 have q2:1≤c2:=E8 g2
 unfold Il
 omega
theorem Ccd(n:Nat)(x:(List Ap))(b:Nat)(h:Ds Tryz.prog n 25 [.lst false (.t123 x)] b):(Db Il x+1)≤b:=by
 obtain ⟨m,f,_,h1,h2⟩:=Nj Tryz.underlying25 h
 have:=Ge (row:=Aq8) (Q:=Ds Tryz.prog m 123) (g:=Il) (fun y b h=>B3a _ y b h) (l:=x) (f:=f) h2
 change Sx f x.length+1≤b at h1
 omega
theorem B3b(n:Nat)(y:Ar)(b:Nat)(h:Ds Tryz.prog n 127 (Cy y) b):Jm y≤b:=by
 obtain ⟨m,b0,_,hb,h⟩:=Qr Tryz.underlying127 h
 change Ry (Ds Tryz.prog m) [9,3,3] (Cy y) b0 at h
 obtain ⟨c0,d0,e0,g0,h⟩:=Aw (Kr Tryz.underlying9 m) h
 obtain ⟨c1,d1,e1,g1,h⟩:=Aw (Gh Tryz.underlying3 m) h
 obtain ⟨c2,d2,e2,g2,h⟩:=Aw (Gh Tryz.underlying3 m) h
 have q0:(y.Name.size+1)≤c0:=Jh Tryz.underlying9 g0
 have q1:1≤c1:=E8 g1
 have q2:1≤c2:=E8 g2
 unfold Jm
 omega
theorem Cce(n:Nat)(x:(List Ar))(b:Nat)(h:Ds Tryz.prog n 26 [.lst false (.t127 x)] b):(Db Jm x+1)≤b:=by
 obtain ⟨m,f,_,h1,h2⟩:=Nj Tryz.underlying26 h
 have:=Ge (row:=Aq9) (Q:=Ds Tryz.prog m 127) (g:=Jm) (fun y b h=>B3b _ y b h) (l:=x) (f:=f) h2
 change Sx f x.length+1≤b at h1
 omega
theorem Bch(n:Nat)(x:(List ByteArray))(b:Nat)(h:Ds Tryz.prog n 27 [.lst false (.t9 x)] b):(Db (fun(z:ByteArray)=>(z.size+1)) x+1)≤b:=by
 obtain ⟨m,f,_,h1,h2⟩:=Nj Tryz.underlying27 h
 have:=Ge (row:=Bfc) (Q:=Ds Tryz.prog m 9) (g:=(fun(z:ByteArray)=>(z.size+1))) (fun y b h=>Jh Tryz.underlying9 h) (l:=x) (f:=f) h2
 change Sx f x.length+1≤b at h1
 omega
theorem Cca:∀n,(∀(y:Ab) (b:Nat),Ds Tryz.prog n 38 (C5 y) b→Co y≤b):=by
 intro n
 induction n using Nat.strongRecOn with
 |_ n ih=>
 refine ?_
 ·intro y b h
  obtain ⟨m,b0,hm,hb,h⟩:=Qr Tryz.underlying38 h
  change Ry (Ds Tryz.prog m) [35,9,3,36] (C5 y) b0 at h
  rw [A2u]
  cases y with
  |mk a0 a1 a2 a3=>
  obtain ⟨c0,d0,e0,g0,h⟩:=Aw (Gh Tryz.underlying35 m) h
  obtain ⟨c1,d1,e1,g1,h⟩:=Aw (Kr Tryz.underlying9 m) h
  obtain ⟨c2,d2,e2,g2,h⟩:=Aw (Gh Tryz.underlying3 m) h
  obtain ⟨c3,d3,e3,g3,h⟩:=Aw (K4 Tryz.underlying36 m) h
  have q0:1≤c0:=E8 g0
  have q1:(a1.size+1)≤c1:=Jh Tryz.underlying9 g1
  have q2:1≤c2:=E8 g2
  have q3:Db Co a3+1≤c3:=by
   obtain ⟨m2,f,hm2,h1,h2⟩:=Nj Tryz.underlying36 g3
   have:=Ge (row:=Asv) (Q:=Ds Tryz.prog m2 38) (g:=Co) (fun y b h=>(ih m2 (by omega)) y b h) (l:=a3) (f:=f) h2
   change Sx f a3.length+1≤c3 at h1
   omega
  simp only [Ab.Op,Ab.Name,Ab.N,Ab.Kids]
  omega
theorem Bpt(n:Nat)(y:Ab)(b:Nat)(h:Ds Tryz.prog n 38 (C5 y) b):Co y≤b:=(Cca n) y b h
theorem Ccj(n:Nat)(x:(List Ab))(b:Nat)(h:Ds Tryz.prog n 36 [.lst false (.t38 x)] b):(Db Co x+1)≤b:=by
 obtain ⟨m,f,_,h1,h2⟩:=Nj Tryz.underlying36 h
 have:=Ge (row:=Asv) (Q:=Ds Tryz.prog m 38) (g:=Co) (fun y b h=>Bpt _ y b h) (l:=x) (f:=f) h2
 change Sx f x.length+1≤b at h1
 omega
theorem Ccb:∀n,(∀(y:Ac) (b:Nat),Ds Tryz.prog n 69 (C7 y) b→C9 y≤b):=by
 intro n
 induction n using Nat.strongRecOn with
 |_ n ih=>
 refine ?_
 ·intro y b h
  obtain ⟨m,b0,hm,hb,h⟩:=Qr Tryz.underlying69 h
  change Ry (Ds Tryz.prog m) [63,9,9,38,38,36,67,4,58,58] (C7 y) b0 at h
  rw [Ap7]
  cases y with
  |mk a0 a1 a2 a3 a4 a5 a6 a7 a8 a9=>
  obtain ⟨c0,d0,e0,g0,h⟩:=Aw (Gh Tryz.underlying63 m) h
  obtain ⟨c1,d1,e1,g1,h⟩:=Aw (Kr Tryz.underlying9 m) h
  obtain ⟨c2,d2,e2,g2,h⟩:=Aw (Kr Tryz.underlying9 m) h
  obtain ⟨c3,d3,e3,g3,h⟩:=Aw (w38 m) h
  obtain ⟨c4,d4,e4,g4,h⟩:=Aw (w38 m) h
  obtain ⟨c5,d5,e5,g5,h⟩:=Aw (K4 Tryz.underlying36 m) h
  obtain ⟨c6,d6,e6,g6,h⟩:=Aw (w67 m) h
  obtain ⟨c7,d7,e7,g7,h⟩:=Aw (Bun Tryz.underlying4 m) h
  obtain ⟨c8,d8,e8,g8,h⟩:=Aw (K4 Tryz.underlying58 m) h
  obtain ⟨c9,d9,e9,g9,h⟩:=Aw (K4 Tryz.underlying58 m) h
  have q0:1≤c0:=E8 g0
  have q1:(a1.size+1)≤c1:=Jh Tryz.underlying9 g1
  have q2:(a2.size+1)≤c2:=Jh Tryz.underlying9 g2
  have q3:Co a3≤c3:=Bpt m _ _ g3
  have q4:Co a4≤c4:=Bpt m _ _ g4
  have q5:(Db Co a5+1)≤c5:=Ccj m _ _ g5
  have q6:Ik a6≤c6:=Bpv m _ _ g6
  have q7:1≤c7:=E8 g7
  have q8:Db C9 a8+1≤c8:=by
   obtain ⟨m2,f,hm2,h1,h2⟩:=Nj Tryz.underlying58 g8
   have:=Ge (row:=Aov) (Q:=Ds Tryz.prog m2 69) (g:=C9) (fun y b h=>(ih m2 (by omega)) y b h) (l:=a8) (f:=f) h2
   change Sx f a8.length+1≤c8 at h1
   omega
  have q9:Db C9 a9+1≤c9:=by
   obtain ⟨m2,f,hm2,h1,h2⟩:=Nj Tryz.underlying58 g9
   have:=Ge (row:=Aov) (Q:=Ds Tryz.prog m2 69) (g:=C9) (fun y b h=>(ih m2 (by omega)) y b h) (l:=a9) (f:=f) h2
   change Sx f a9.length+1≤c9 at h1
   omega
  simp only [Ac.Op,Ac.Name,Ac.Of,Ac.E,Ac.F,Ac.Args,Ac.Dist,Ac.Flag,Ac.Body,Ac.Else]
  omega
theorem Ccr(n:Nat)(y:Ac)(b:Nat)(h:Ds Tryz.prog n 69 (C7 y) b):C9 y≤b:=(Ccb n) y b h
theorem Ccp(n:Nat)(x:(List Ac))(b:Nat)(h:Ds Tryz.prog n 58 [.lst false (.t69 x)] b):(Db C9 x+1)≤b:=by
 obtain ⟨m,f,_,h1,h2⟩:=Nj Tryz.underlying58 h
 have:=Ge (row:=Aov) (Q:=Ds Tryz.prog m 69) (g:=C9) (fun y b h=>Ccr _ y b h) (l:=x) (f:=f) h2
 change Sx f x.length+1≤b at h1
 omega
theorem Ccq(n:Nat)(y:Ai)(b:Nat)(h:Ds Tryz.prog n 60 (B3 y) b):Cp y≤b:=by
 obtain ⟨m,b0,_,hb,h⟩:=Qr Tryz.underlying60 h
 change Ry (Ds Tryz.prog m) [9,23,23,58] (B3 y) b0 at h
 obtain ⟨c0,d0,e0,g0,h⟩:=Aw (Kr Tryz.underlying9 m) h
 obtain ⟨c1,d1,e1,g1,h⟩:=Aw (K4 Tryz.underlying23 m) h
 obtain ⟨c2,d2,e2,g2,h⟩:=Aw (K4 Tryz.underlying23 m) h
 obtain ⟨c3,d3,e3,g3,h⟩:=Aw (K4 Tryz.underlying58 m) h
 have q0:(y.Name.size+1)≤c0:=Jh Tryz.underlying9 g0
 have q1:(Db Gu y.Params+1)≤c1:=B0z m _ _ g1
 have q2:(Db Gu y.Locals+1)≤c2:=B0z m _ _ g2
 have q3:(Db C9 y.Body+1)≤c3:=Ccp m _ _ g3
 unfold Cp
 omega
theorem Ccf(n:Nat)(x:(List Ai))(b:Nat)(h:Ds Tryz.prog n 28 [.lst false (.t60 x)] b):(Db Cp x+1)≤b:=by
 obtain ⟨m,f,_,h1,h2⟩:=Nj Tryz.underlying28 h
 have:=Ge (row:=Azr) (Q:=Ds Tryz.prog m 60) (g:=Cp) (fun y b h=>Ccq _ y b h) (l:=x) (f:=f) h2
 change Sx f x.length+1≤b at h1
 omega
theorem B3c(n:Nat)(y:Bh)(b:Nat)(h:Ds Tryz.prog n 133 (Nn y) b):Wp y≤b:=by
 obtain ⟨m,b0,_,hb,h⟩:=Qr Tryz.underlying133 h
 change Ry (Ds Tryz.prog m) [9,65,3,3,3] (Nn y) b0 at h
 obtain ⟨c0,d0,e0,g0,h⟩:=Aw (Kr Tryz.underlying9 m) h
 obtain ⟨c1,d1,e1,g1,h⟩:=Aw (K4 Tryz.underlying65 m) h
 obtain ⟨c2,d2,e2,g2,h⟩:=Aw (Gh Tryz.underlying3 m) h
 obtain ⟨c3,d3,e3,g3,h⟩:=Aw (Gh Tryz.underlying3 m) h
 obtain ⟨c4,d4,e4,g4,h⟩:=Aw (Gh Tryz.underlying3 m) h
 have q0:(y.Routine.size+1)≤c0:=Jh Tryz.underlying9 g0
 have q1:(Db (fun(z:Int)=>1) y.Args+1)≤c1:=Bpu m _ _ g1
 have q2:1≤c2:=E8 g2
 have q3:1≤c3:=E8 g3
 have q4:1≤c4:=E8 g4
 unfold Wp
 omega
theorem Ccg(n:Nat)(x:(List Bh))(b:Nat)(h:Ds Tryz.prog n 29 [.lst false (.t133 x)] b):(Db Wp x+1)≤b:=by
 obtain ⟨m,f,_,h1,h2⟩:=Nj Tryz.underlying29 h
 have:=Ge (row:=Ara) (Q:=Ds Tryz.prog m 133) (g:=Wp) (fun y b h=>B3c _ y b h) (l:=x) (f:=f) h2
 change Sx f x.length+1≤b at h1
 omega
theorem B3h(n:Nat)(y:Au)(b:Nat)(h:Ds Tryz.prog n 186 (D3 y) b):m5 y≤b:=by
 obtain ⟨m,b0,_,hb,h⟩:=Qr Tryz.underlying186 h
 change Ry (Ds Tryz.prog m) [3,9,9] (D3 y) b0 at h
 obtain ⟨c0,d0,e0,g0,h⟩:=Aw (Gh Tryz.underlying3 m) h
 obtain ⟨c1,d1,e1,g1,h⟩:=Aw (Kr Tryz.underlying9 m) h
 obtain ⟨c2,d2,e2,g2,h⟩:=Aw (Kr Tryz.underlying9 m) h
 have q0:1≤c0:=E8 g0
 have q1:(y.What.size+1)≤c1:=Jh Tryz.underlying9 g1
 have q2:(y.Name.size+1)≤c2:=Jh Tryz.underlying9 g2
 unfold m5
 omega
theorem B3e(n:Nat)(x:(List Au))(b:Nat)(h:Ds Tryz.prog n 149 [.lst false (.t186 x)] b):(Db m5 x+1)≤b:=by
 obtain ⟨m,f,_,h1,h2⟩:=Nj Tryz.underlying149 h
 have:=Ge (row:=Are) (Q:=Ds Tryz.prog m 186) (g:=m5) (fun y b h=>B3h _ y b h) (l:=x) (f:=f) h2
 change Sx f x.length+1≤b at h1
 omega
theorem B3f(n:Nat)(y:Ax)(b:Nat)(h:Ds Tryz.prog n 151 (C6 y) b):Acp y≤b:=by
 obtain ⟨m,b0,_,hb,h⟩:=Qr Tryz.underlying151 h
 change Ry (Ds Tryz.prog m) [9,149,3] (C6 y) b0 at h
 obtain ⟨c0,d0,e0,g0,h⟩:=Aw (Kr Tryz.underlying9 m) h
 obtain ⟨c1,d1,e1,g1,h⟩:=Aw (K4 Tryz.underlying149 m) h
 obtain ⟨c2,d2,e2,g2,h⟩:=Aw (Gh Tryz.underlying3 m) h
 have q0:(y.Name.size+1)≤c0:=Jh Tryz.underlying9 g0
 have q1:(Db m5 y.Terms+1)≤c1:=B3e m _ _ g1
 have q2:1≤c2:=E8 g2
 unfold Acp
 omega
theorem Cch(n:Nat)(x:(List Ax))(b:Nat)(h:Ds Tryz.prog n 30 [.lst false (.t151 x)] b):(Db Acp x+1)≤b:=by
 obtain ⟨m,f,_,h1,h2⟩:=Nj Tryz.underlying30 h
 have:=Ge (row:=Arc) (Q:=Ds Tryz.prog m 151) (g:=Acp) (fun y b h=>B3f _ y b h) (l:=x) (f:=f) h2
 change Sx f x.length+1≤b at h1
 omega
theorem Cci(n:Nat)(y:Aa)(b:Nat)(h:Ds Tryz.prog n 32 (Ae y) b):Cj y≤b:=by
 obtain ⟨m,b0,_,hb,h⟩:=Qr Tryz.underlying32 h
 change Ry (Ds Tryz.prog m) [9,22,24,25,26,27,27,27,27,27,28,29,30] (Ae y) b0 at h
 obtain ⟨c0,d0,e0,g0,h⟩:=Aw (Kr Tryz.underlying9 m) h
 obtain ⟨c1,d1,e1,g1,h⟩:=Aw (K4 Tryz.underlying22 m) h
 obtain ⟨c2,d2,e2,g2,h⟩:=Aw (K4 Tryz.underlying24 m) h
 obtain ⟨c3,d3,e3,g3,h⟩:=Aw (K4 Tryz.underlying25 m) h
 obtain ⟨c4,d4,e4,g4,h⟩:=Aw (K4 Tryz.underlying26 m) h
 obtain ⟨c5,d5,e5,g5,h⟩:=Aw (K4 Tryz.underlying27 m) h
 obtain ⟨c6,d6,e6,g6,h⟩:=Aw (K4 Tryz.underlying27 m) h
 obtain ⟨c7,d7,e7,g7,h⟩:=Aw (K4 Tryz.underlying27 m) h
 obtain ⟨c8,d8,e8,g8,h⟩:=Aw (K4 Tryz.underlying27 m) h
 obtain ⟨c9,d9,e9,g9,h⟩:=Aw (K4 Tryz.underlying27 m) h
 obtain ⟨c10,d10,e10,g10,h⟩:=Aw (K4 Tryz.underlying28 m) h
 obtain ⟨c11,d11,e11,g11,h⟩:=Aw (K4 Tryz.underlying29 m) h
 obtain ⟨c12,d12,e12,g12,h⟩:=Aw (K4 Tryz.underlying30 m) h
 have q0:(y.Name.size+1)≤c0:=Jh Tryz.underlying9 g0
 have q1:(Db H3 y.Vars+1)≤c1:=B0y m _ _ g1
 have q2:(Db Dj y.Resources+1)≤c2:=Ccc m _ _ g2
 have q3:(Db Il y.Stores+1)≤c3:=Ccd m _ _ g3
 have q4:(Db Jm y.Belts+1)≤c4:=Cce m _ _ g4
 have q5:(Db (fun(z:ByteArray)=>(z.size+1)) y.Queues+1)≤c5:=Bch m _ _ g5
 have q6:(Db (fun(z:ByteArray)=>(z.size+1)) y.Streams+1)≤c6:=Bch m _ _ g6
 have q7:(Db (fun(z:ByteArray)=>(z.size+1)) y.Tallies+1)≤c7:=Bch m _ _ g7
 have q8:(Db (fun(z:ByteArray)=>(z.size+1)) y.Levels+1)≤c8:=Bch m _ _ g8
 have q9:(Db (fun(z:ByteArray)=>(z.size+1)) y.Counts+1)≤c9:=Bch m _ _ g9
 have q10:(Db Cp y.Routines+1)≤c10:=Ccf m _ _ g10
 have q11:(Db Wp y.Starts+1)≤c11:=Ccg m _ _ g11
 have q12:(Db Acp y.Laws+1)≤c12:=Cch m _ _ g12
 unfold Cj
 omega
theorem Cck(n:Nat)(x:(List Aa))(b:Nat)(h:Ds Tryz.prog n 48 [.lst false (.t32 x)] b):(Db Cj x+1)≤b:=by
 obtain ⟨m,f,_,h1,h2⟩:=Nj Tryz.underlying48 h
 have:=Ge (row:=Azo) (Q:=Ds Tryz.prog m 32) (g:=Cj) (fun y b h=>Cci _ y b h) (l:=x) (f:=f) h2
 change Sx f x.length+1≤b at h1
 omega
theorem B3d(n:Nat)(y:Bg)(b:Nat)(h:Ds Tryz.prog n 139 (I5 y) b):S1 y≤b:=by
 obtain ⟨m,b0,_,hb,h⟩:=Qr Tryz.underlying139 h
 change Ry (Ds Tryz.prog m) [9,9,3] (I5 y) b0 at h
 obtain ⟨c0,d0,e0,g0,h⟩:=Aw (Kr Tryz.underlying9 m) h
 obtain ⟨c1,d1,e1,g1,h⟩:=Aw (Kr Tryz.underlying9 m) h
 obtain ⟨c2,d2,e2,g2,h⟩:=Aw (Gh Tryz.underlying3 m) h
 have q0:(y.From.size+1)≤c0:=Jh Tryz.underlying9 g0
 have q1:(y.To.size+1)≤c1:=Jh Tryz.underlying9 g1
 have q2:1≤c2:=E8 g2
 unfold S1
 omega
theorem Ccl(n:Nat)(x:(List Bg))(b:Nat)(h:Ds Tryz.prog n 49 [.lst false (.t139 x)] b):(Db S1 x+1)≤b:=by
 obtain ⟨m,f,_,h1,h2⟩:=Nj Tryz.underlying49 h
 have:=Ge (row:=Arb) (Q:=Ds Tryz.prog m 139) (g:=S1) (fun y b h=>B3d _ y b h) (l:=x) (f:=f) h2
 change Sx f x.length+1≤b at h1
 omega
theorem Ccm(n:Nat)(y:Ad)(b:Nat)(h:Ds Tryz.prog n 51 (Az y) b):Gb y≤b:=by
 obtain ⟨m,b0,_,hb,h⟩:=Qr Tryz.underlying51 h
 change Ry (Ds Tryz.prog m) [9,22,48,49] (Az y) b0 at h
 obtain ⟨c0,d0,e0,g0,h⟩:=Aw (Kr Tryz.underlying9 m) h
 obtain ⟨c1,d1,e1,g1,h⟩:=Aw (K4 Tryz.underlying22 m) h
 obtain ⟨c2,d2,e2,g2,h⟩:=Aw (K4 Tryz.underlying48 m) h
 obtain ⟨c3,d3,e3,g3,h⟩:=Aw (K4 Tryz.underlying49 m) h
 have q0:(y.Name.size+1)≤c0:=Jh Tryz.underlying9 g0
 have q1:(Db H3 y.Params+1)≤c1:=B0y m _ _ g1
 have q2:(Db Cj y.Sites+1)≤c2:=Cck m _ _ g2
 have q3:(Db S1 y.Links+1)≤c3:=Ccl m _ _ g3
 unfold Gb
 omega
end Go.Proofs.YtogleahbpobaiaaGreat.Ev
