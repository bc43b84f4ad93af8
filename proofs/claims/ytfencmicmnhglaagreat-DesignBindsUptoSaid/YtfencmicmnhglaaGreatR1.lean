/-  What is read: its bulk. -/
import Derived.Test.YtfencmicmnhglaaGreatR0
import Derived.Test.YtfencmicmnhglaaGreatFz
namespace Go.Proofs.YtfencmicmnhglaaGreat.Ev
open Go An
set_option maxRecDepth 100000
set_option maxHeartbeats 4000000
set_option linter.unusedVariables false
set_option linter.unusedSimpArgs false
set_option linter.unnecessarySimpa false
mutual
def Cm:Ab→Nat
 | .mk a0 a1 a2 a3=>1+(a1.size+1)+1+(Rn a3+1)+1
def Rn:List Ab→Nat
 | []=>0
 |x::k=>Cm x+Rn k
end
theorem Aq8(l:List Ab):Rn l=C3 Cm l:=by
 induction l with
 |nil=>rw [Rn];rfl
 |cons x k ih=>rw [Rn,ih];rfl
theorem Ata(x:Ab):Cm x=1+(x.Name.size+1)+1+(C3 Cm x.Kids+1)+1:=by
 cases x with|mk a0 a1 a2 a3=>simp only [Cm,Aq8,Ab.Op,Ab.Name,Ab.N,Ab.Kids]
def I6(x:Aq):Nat:=(x.Name.size+1)+1+1+1
def Sw(x:Cy):Nat:=1+1+1
def H5(x:Bv):Nat:=1+1+1+1+(C3 (fun(z:Int)=>1) x.Values+1)+(C3 (fun(z:Int)=>1) x.Weights+1)+1
def Hk(x:Ap):Nat:=(x.Name.size+1)+1+1
def Xn(x:Aw):Nat:=1+(x.What.size+1)+(x.Name.size+1)+1
def Zz(x:A9):Nat:=(x.Name.size+1)+(C3 Xn x.Terms+1)+1+1
def Oo(x:Gf):Nat:=(x.Stream.size+1)+H5 x.Up+H5 x.Down+1
def De(x:Ai):Nat:=(x.Name.size+1)+1+(C3 Sw x.Shift+1)+1+Oo x.Fault+1
mutual
def C4:Ac→Nat
 | .mk a0 a1 a2 a3 a4 a5 a6 a7 a8 a9=>1+(a1.size+1)+(a2.size+1)+Cm a3+Cm a4+(C3 Cm a5+1)+H5 a6+1+(D9 a8+1)+(D9 a9+1)+1
def D9:List Ac→Nat
 | []=>0
 |x::k=>C4 x+D9 k
end
theorem N3(l:List Ac):D9 l=C3 C4 l:=by
 induction l with
 |nil=>rw [D9];rfl
 |cons x k ih=>rw [D9,ih];rfl
theorem Ah8(x:Ac):C4 x=1+(x.Name.size+1)+(x.Of.size+1)+Cm x.E+Cm x.F+(C3 Cm x.Args+1)+H5 x.Dist+1+(C3 C4 x.Body+1)+(C3 C4 x.Else+1)+1:=by
 cases x with|mk a0 a1 a2 a3 a4 a5 a6 a7 a8 a9=>simp only [C4,N3,Ac.Op,Ac.Name,Ac.Of,Ac.E,Ac.F,Ac.Args,Ac.Dist,Ac.Flag,Ac.Body,Ac.Else]
def Df(x:Ak):Nat:=(x.Name.size+1)+(C3 Hk x.Params+1)+(C3 Hk x.Locals+1)+(C3 C4 x.Body+1)+1
def Uh(x:Bo):Nat:=(x.Routine.size+1)+(C3 (fun(z:Int)=>1) x.Args+1)+1+1+1+1
def H6(x:Am):Nat:=(x.Name.size+1)+1+1+1
def Gt(x:Ah):Nat:=(x.Name.size+1)+1+1+1
def C2(x:Aa):Nat:=(x.Name.size+1)+(C3 Gt x.Vars+1)+(C3 De x.Resources+1)+(C3 H6 x.Stores+1)+(C3 I6 x.Belts+1)+(C3 (fun(z:ByteArray)=>(z.size+1)) x.Queues+1)+(C3 (fun(z:ByteArray)=>(z.size+1)) x.Streams+1)+(C3 (fun(z:ByteArray)=>(z.size+1)) x.Tallies+1)+(C3 (fun(z:ByteArray)=>(z.size+1)) x.Levels+1)+(C3 (fun(z:ByteArray)=>(z.size+1)) x.Counts+1)+(C3 Df x.Routines+1)+(C3 Uh x.Starts+1)+(C3 Zz x.Laws+1)+1
def Sx(x:Af):Nat:=(x.Name.size+1)+(C3 (fun(z:Int)=>1) x.Levels+1)+1
def Ri(x:Be):Nat:=(x.From.size+1)+(x.To.size+1)+1+1
def Hl(x:Ad):Nat:=(x.Name.size+1)+(C3 Gt x.Params+1)+(C3 C2 x.Sites+1)+(C3 Ri x.Links+1)+1
theorem Bxq(n:Nat)(y:Ah)(b:Nat)(h:C9 Tryz.prog n 77 (Bz y) b):Gt y≤b:=by
 obtain ⟨m,b0,_,hb,h⟩:=Nq Tryz.underlying77 h
 change P4 (C9 Tryz.prog m) [9,75,3] (Bz y) b0 at h
 obtain ⟨c0,d0,e0,g0,h⟩:=Av (Jj Tryz.underlying9 m) h
 obtain ⟨c1,d1,e1,g1,h⟩:=Av (Gh Tryz.underlying75 m) h
 obtain ⟨c2,d2,e2,g2,h⟩:=Av (Gh Tryz.underlying3 m) h
 have q0:(y.Name.size+1)≤c0:=Ig Tryz.underlying9 g0
 have q1:1≤c1:=E5 g1
 have q2:1≤c2:=E5 g2
 unfold Gt
 omega
theorem Boc(n:Nat)(x:(List Ah))(b:Nat)(h:C9 Tryz.prog n 22 [.lst false (.t77 x)] b):(C3 Gt x+1)≤b:=by
 obtain ⟨m,f,_,h1,h2⟩:=K5 Tryz.underlying22 h
 have:=F0 (row:=Aq3) (Q:=C9 Tryz.prog m 77) (g:=Gt) (fun y b h=>Bxq _ y b h) (l:=x) (f:=f) h2
 change P5 f x.length+1≤b at h1
 omega
theorem Bqz(n:Nat)(y:Cy)(b:Nat)(h:C9 Tryz.prog n 184 (Yr y) b):Sw y≤b:=by
 obtain ⟨m,b0,_,hb,h⟩:=Nq Tryz.underlying184 h
 change P4 (C9 Tryz.prog m) [3,3] (Yr y) b0 at h
 obtain ⟨c0,d0,e0,g0,h⟩:=Av (Gh Tryz.underlying3 m) h
 obtain ⟨c1,d1,e1,g1,h⟩:=Av (Gh Tryz.underlying3 m) h
 have q0:1≤c0:=E5 g0
 have q1:1≤c1:=E5 g1
 unfold Sw
 omega
theorem Bqq(n:Nat)(x:(List Cy))(b:Nat)(h:C9 Tryz.prog n 141 [.lst false (.t184 x)] b):(C3 Sw x+1)≤b:=by
 obtain ⟨m,f,_,h1,h2⟩:=K5 Tryz.underlying141 h
 have:=F0 (row:=Ajc) (Q:=C9 Tryz.prog m 184) (g:=Sw) (fun y b h=>Bqz _ y b h) (l:=x) (f:=f) h2
 change P5 f x.length+1≤b at h1
 omega
theorem A6x(n:Nat)(x:(List Int))(b:Nat)(h:C9 Tryz.prog n 35 [.lst false (.t3 x)] b):(C3 (fun(z:Int)=>1) x+1)≤b:=by
 obtain ⟨m,f,_,h1,h2⟩:=K5 Tryz.underlying35 h
 have:=F0 (row:=A3c) (Q:=C9 Tryz.prog m 3) (g:=(fun(z:Int)=>1)) (fun y b h=>E5 h) (l:=x) (f:=f) h2
 change P5 f x.length+1≤b at h1
 omega
theorem Bd4(n:Nat)(y:Bv)(b:Nat)(h:C9 Tryz.prog n 97 (T0 y) b):H5 y≤b:=by
 obtain ⟨m,b0,_,hb,h⟩:=Nq Tryz.underlying97 h
 change P4 (C9 Tryz.prog m) [95,3,3,3,35,35] (T0 y) b0 at h
 obtain ⟨c0,d0,e0,g0,h⟩:=Av (Gh Tryz.underlying95 m) h
 obtain ⟨c1,d1,e1,g1,h⟩:=Av (Gh Tryz.underlying3 m) h
 obtain ⟨c2,d2,e2,g2,h⟩:=Av (Gh Tryz.underlying3 m) h
 obtain ⟨c3,d3,e3,g3,h⟩:=Av (Gh Tryz.underlying3 m) h
 obtain ⟨c4,d4,e4,g4,h⟩:=Av (Jt Tryz.underlying35 m) h
 obtain ⟨c5,d5,e5,g5,h⟩:=Av (Jt Tryz.underlying35 m) h
 have q0:1≤c0:=E5 g0
 have q1:1≤c1:=E5 g1
 have q2:1≤c2:=E5 g2
 have q3:1≤c3:=E5 g3
 have q4:(C3 (fun(z:Int)=>1) y.Values+1)≤c4:=A6x m _ _ g4
 have q5:(C3 (fun(z:Int)=>1) y.Weights+1)≤c5:=A6x m _ _ g5
 unfold H5
 omega
theorem Bqr(n:Nat)(y:Gf)(b:Nat)(h:C9 Tryz.prog n 143 (Rj y) b):Oo y≤b:=by
 obtain ⟨m,b0,_,hb,h⟩:=Nq Tryz.underlying143 h
 change P4 (C9 Tryz.prog m) [9,97,97] (Rj y) b0 at h
 obtain ⟨c0,d0,e0,g0,h⟩:=Av (Jj Tryz.underlying9 m) h
 obtain ⟨c1,d1,e1,g1,h⟩:=Av (w97 m) h
 obtain ⟨c2,d2,e2,g2,h⟩:=Av (w97 m) h
 have q0:(y.Stream.size+1)≤c0:=Ig Tryz.underlying9 g0
 have q1:H5 y.Up≤c1:=Bd4 m _ _ g1
 have q2:H5 y.Down≤c2:=Bd4 m _ _ g2
 unfold Oo
 omega
theorem Bqs(n:Nat)(y:Ai)(b:Nat)(h:C9 Tryz.prog n 145 (Bl y) b):De y≤b:=by
 obtain ⟨m,b0,_,hb,h⟩:=Nq Tryz.underlying145 h
 change P4 (C9 Tryz.prog m) [9,3,141,3,143] (Bl y) b0 at h
 obtain ⟨c0,d0,e0,g0,h⟩:=Av (Jj Tryz.underlying9 m) h
 obtain ⟨c1,d1,e1,g1,h⟩:=Av (Gh Tryz.underlying3 m) h
 obtain ⟨c2,d2,e2,g2,h⟩:=Av (Jt Tryz.underlying141 m) h
 obtain ⟨c3,d3,e3,g3,h⟩:=Av (Gh Tryz.underlying3 m) h
 obtain ⟨c4,d4,e4,g4,h⟩:=Av (B19 m) h
 have q0:(y.Name.size+1)≤c0:=Ig Tryz.underlying9 g0
 have q1:1≤c1:=E5 g1
 have q2:(C3 Sw y.Shift+1)≤c2:=Bqq m _ _ g2
 have q3:1≤c3:=E5 g3
 have q4:Oo y.Fault≤c4:=Bqr m _ _ g4
 unfold De
 omega
theorem Bxh(n:Nat)(x:(List Ai))(b:Nat)(h:C9 Tryz.prog n 47 [.lst false (.t145 x)] b):(C3 De x+1)≤b:=by
 obtain ⟨m,f,_,h1,h2⟩:=K5 Tryz.underlying47 h
 have:=F0 (row:=Ai6) (Q:=C9 Tryz.prog m 145) (g:=De) (fun y b h=>Bqs _ y b h) (l:=x) (f:=f) h2
 change P5 f x.length+1≤b at h1
 omega
theorem Bqt(n:Nat)(y:Am)(b:Nat)(h:C9 Tryz.prog n 151 (Co y) b):H6 y≤b:=by
 obtain ⟨m,b0,_,hb,h⟩:=Nq Tryz.underlying151 h
 change P4 (C9 Tryz.prog m) [9,3,149] (Co y) b0 at h
 obtain ⟨c0,d0,e0,g0,h⟩:=Av (Jj Tryz.underlying9 m) h
 obtain ⟨c1,d1,e1,g1,h⟩:=Av (Gh Tryz.underlying3 m) h
 obtain ⟨c2,d2,e2,g2,h⟩:=Av (Gh Tryz.underlying149 m) h
 have q0:(y.Name.size+1)≤c0:=Ig Tryz.underlying9 g0
 have q1:1≤c1:=E5 g1
 have q2:1≤c2:=E5 g2
 unfold H6
 omega
theorem Bxi(n:Nat)(x:(List Am))(b:Nat)(h:C9 Tryz.prog n 48 [.lst false (.t151 x)] b):(C3 H6 x+1)≤b:=by
 obtain ⟨m,f,_,h1,h2⟩:=K5 Tryz.underlying48 h
 have:=F0 (row:=Ai7) (Q:=C9 Tryz.prog m 151) (g:=H6) (fun y b h=>Bqt _ y b h) (l:=x) (f:=f) h2
 change P5 f x.length+1≤b at h1
 omega
theorem Bqu(n:Nat)(y:Aq)(b:Nat)(h:C9 Tryz.prog n 155 (Cu y) b):I6 y≤b:=by
 obtain ⟨m,b0,_,hb,h⟩:=Nq Tryz.underlying155 h
 change P4 (C9 Tryz.prog m) [9,3,3] (Cu y) b0 at h
 obtain ⟨c0,d0,e0,g0,h⟩:=Av (Jj Tryz.underlying9 m) h
 obtain ⟨c1,d1,e1,g1,h⟩:=Av (Gh Tryz.underlying3 m) h
 obtain ⟨c2,d2,e2,g2,h⟩:=Av (Gh Tryz.underlying3 m) h
 have q0:(y.Name.size+1)≤c0:=Ig Tryz.underlying9 g0
 have q1:1≤c1:=E5 g1
 have q2:1≤c2:=E5 g2
 unfold I6
 omega
theorem Bxj(n:Nat)(x:(List Aq))(b:Nat)(h:C9 Tryz.prog n 49 [.lst false (.t155 x)] b):(C3 I6 x+1)≤b:=by
 obtain ⟨m,f,_,h1,h2⟩:=K5 Tryz.underlying49 h
 have:=F0 (row:=Ai8) (Q:=C9 Tryz.prog m 155) (g:=I6) (fun y b h=>Bqu _ y b h) (l:=x) (f:=f) h2
 change P5 f x.length+1≤b at h1
 omega
theorem A01(n:Nat)(x:(List ByteArray))(b:Nat)(h:C9 Tryz.prog n 50 [.lst false (.t9 x)] b):(C3 (fun(z:ByteArray)=>(z.size+1)) x+1)≤b:=by
 obtain ⟨m,f,_,h1,h2⟩:=K5 Tryz.underlying50 h
 have:=F0 (row:=A3e) (Q:=C9 Tryz.prog m 9) (g:=(fun(z:ByteArray)=>(z.size+1))) (fun y b h=>Ig Tryz.underlying9 h) (l:=x) (f:=f) h2
 change P5 f x.length+1≤b at h1
 omega
theorem Bq0(n:Nat)(y:Ap)(b:Nat)(h:C9 Tryz.prog n 190 (Mo y) b):Hk y≤b:=by
 obtain ⟨m,b0,_,hb,h⟩:=Nq Tryz.underlying190 h
 change P4 (C9 Tryz.prog m) [9,75] (Mo y) b0 at h
 obtain ⟨c0,d0,e0,g0,h⟩:=Av (Jj Tryz.underlying9 m) h
 obtain ⟨c1,d1,e1,g1,h⟩:=Av (Gh Tryz.underlying75 m) h
 have q0:(y.Name.size+1)≤c0:=Ig Tryz.underlying9 g0
 have q1:1≤c1:=E5 g1
 unfold Hk
 omega
theorem Bod(n:Nat)(x:(List Ap))(b:Nat)(h:C9 Tryz.prog n 57 [.lst false (.t190 x)] b):(C3 Hk x+1)≤b:=by
 obtain ⟨m,f,_,h1,h2⟩:=K5 Tryz.underlying57 h
 have:=F0 (row:=Ajd) (Q:=C9 Tryz.prog m 190) (g:=Hk) (fun y b h=>Bq0 _ y b h) (l:=x) (f:=f) h2
 change P5 f x.length+1≤b at h1
 omega
theorem Bxa:∀n,(∀(y:Ab) (b:Nat),C9 Tryz.prog n 94 (F3 y) b→Cm y≤b):=by
 intro n
 induction n using Nat.strongRecOn with
 |_ n ih=>
 refine ?_
 ·intro y b h
  obtain ⟨m,b0,hm,hb,h⟩:=Nq Tryz.underlying94 h
  change P4 (C9 Tryz.prog m) [91,9,3,92] (F3 y) b0 at h
  rw [Ata]
  cases y with
  |mk a0 a1 a2 a3=>
  obtain ⟨c0,d0,e0,g0,h⟩:=Av (Gh Tryz.underlying91 m) h
  obtain ⟨c1,d1,e1,g1,h⟩:=Av (Jj Tryz.underlying9 m) h
  obtain ⟨c2,d2,e2,g2,h⟩:=Av (Gh Tryz.underlying3 m) h
  obtain ⟨c3,d3,e3,g3,h⟩:=Av (Jt Tryz.underlying92 m) h
  have q0:1≤c0:=E5 g0
  have q1:(a1.size+1)≤c1:=Ig Tryz.underlying9 g1
  have q2:1≤c2:=E5 g2
  have q3:C3 Cm a3+1≤c3:=by
   obtain ⟨m2,f,hm2,h1,h2⟩:=K5 Tryz.underlying92 g3
   have:=F0 (row:=Aks) (Q:=C9 Tryz.prog m2 94) (g:=Cm) (fun y b h=>(ih m2 (by omega)) y b h) (l:=a3) (f:=f) h2
   change P5 f a3.length+1≤c3 at h1
   omega
  simp only [Ab.Op,Ab.Name,Ab.N,Ab.Kids]
  omega
theorem Bd3(n:Nat)(y:Ab)(b:Nat)(h:C9 Tryz.prog n 94 (F3 y) b):Cm y≤b:=(Bxa n) y b h
theorem Bxr(n:Nat)(x:(List Ab))(b:Nat)(h:C9 Tryz.prog n 92 [.lst false (.t94 x)] b):(C3 Cm x+1)≤b:=by
 obtain ⟨m,f,_,h1,h2⟩:=K5 Tryz.underlying92 h
 have:=F0 (row:=Aks) (Q:=C9 Tryz.prog m 94) (g:=Cm) (fun y b h=>Bd3 _ y b h) (l:=x) (f:=f) h2
 change P5 f x.length+1≤b at h1
 omega
theorem Bxb:∀n,(∀(y:Ac) (b:Nat),C9 Tryz.prog n 99 (Eo y) b→C4 y≤b):=by
 intro n
 induction n using Nat.strongRecOn with
 |_ n ih=>
 refine ?_
 ·intro y b h
  obtain ⟨m,b0,hm,hb,h⟩:=Nq Tryz.underlying99 h
  change P4 (C9 Tryz.prog m) [90,9,9,94,94,92,97,4,58,58] (Eo y) b0 at h
  rw [Ah8]
  cases y with
  |mk a0 a1 a2 a3 a4 a5 a6 a7 a8 a9=>
  obtain ⟨c0,d0,e0,g0,h⟩:=Av (Gh Tryz.underlying90 m) h
  obtain ⟨c1,d1,e1,g1,h⟩:=Av (Jj Tryz.underlying9 m) h
  obtain ⟨c2,d2,e2,g2,h⟩:=Av (Jj Tryz.underlying9 m) h
  obtain ⟨c3,d3,e3,g3,h⟩:=Av (w94 m) h
  obtain ⟨c4,d4,e4,g4,h⟩:=Av (w94 m) h
  obtain ⟨c5,d5,e5,g5,h⟩:=Av (Jt Tryz.underlying92 m) h
  obtain ⟨c6,d6,e6,g6,h⟩:=Av (w97 m) h
  obtain ⟨c7,d7,e7,g7,h⟩:=Av (Bic Tryz.underlying4 m) h
  obtain ⟨c8,d8,e8,g8,h⟩:=Av (Jt Tryz.underlying58 m) h
  obtain ⟨c9,d9,e9,g9,h⟩:=Av (Jt Tryz.underlying58 m) h
  have q0:1≤c0:=E5 g0
  have q1:(a1.size+1)≤c1:=Ig Tryz.underlying9 g1
  have q2:(a2.size+1)≤c2:=Ig Tryz.underlying9 g2
  have q3:Cm a3≤c3:=Bd3 m _ _ g3
  have q4:Cm a4≤c4:=Bd3 m _ _ g4
  have q5:(C3 Cm a5+1)≤c5:=Bxr m _ _ g5
  have q6:H5 a6≤c6:=Bd4 m _ _ g6
  have q7:1≤c7:=E5 g7
  have q8:C3 C4 a8+1≤c8:=by
   obtain ⟨m2,f,hm2,h1,h2⟩:=K5 Tryz.underlying58 g8
   have:=F0 (row:=Ahd) (Q:=C9 Tryz.prog m2 99) (g:=C4) (fun y b h=>(ih m2 (by omega)) y b h) (l:=a8) (f:=f) h2
   change P5 f a8.length+1≤c8 at h1
   omega
  have q9:C3 C4 a9+1≤c9:=by
   obtain ⟨m2,f,hm2,h1,h2⟩:=K5 Tryz.underlying58 g9
   have:=F0 (row:=Ahd) (Q:=C9 Tryz.prog m2 99) (g:=C4) (fun y b h=>(ih m2 (by omega)) y b h) (l:=a9) (f:=f) h2
   change P5 f a9.length+1≤c9 at h1
   omega
  simp only [Ac.Op,Ac.Name,Ac.Of,Ac.E,Ac.F,Ac.Args,Ac.Dist,Ac.Flag,Ac.Body,Ac.Else]
  omega
theorem Bxs(n:Nat)(y:Ac)(b:Nat)(h:C9 Tryz.prog n 99 (Eo y) b):C4 y≤b:=(Bxb n) y b h
theorem Bxo(n:Nat)(x:(List Ac))(b:Nat)(h:C9 Tryz.prog n 58 [.lst false (.t99 x)] b):(C3 C4 x+1)≤b:=by
 obtain ⟨m,f,_,h1,h2⟩:=K5 Tryz.underlying58 h
 have:=F0 (row:=Ahd) (Q:=C9 Tryz.prog m 99) (g:=C4) (fun y b h=>Bxs _ y b h) (l:=x) (f:=f) h2
 change P5 f x.length+1≤b at h1
 omega
theorem Bxp(n:Nat)(y:Ak)(b:Nat)(h:C9 Tryz.prog n 60 (Bw y) b):Df y≤b:=by
 obtain ⟨m,b0,_,hb,h⟩:=Nq Tryz.underlying60 h
 change P4 (C9 Tryz.prog m) [9,57,57,58] (Bw y) b0 at h
 obtain ⟨c0,d0,e0,g0,h⟩:=Av (Jj Tryz.underlying9 m) h
 obtain ⟨c1,d1,e1,g1,h⟩:=Av (Jt Tryz.underlying57 m) h
 obtain ⟨c2,d2,e2,g2,h⟩:=Av (Jt Tryz.underlying57 m) h
 obtain ⟨c3,d3,e3,g3,h⟩:=Av (Jt Tryz.underlying58 m) h
 have q0:(y.Name.size+1)≤c0:=Ig Tryz.underlying9 g0
 have q1:(C3 Hk y.Params+1)≤c1:=Bod m _ _ g1
 have q2:(C3 Hk y.Locals+1)≤c2:=Bod m _ _ g2
 have q3:(C3 C4 y.Body+1)≤c3:=Bxo m _ _ g3
 unfold Df
 omega
theorem Bxk(n:Nat)(x:(List Ak))(b:Nat)(h:C9 Tryz.prog n 51 [.lst false (.t60 x)] b):(C3 Df x+1)≤b:=by
 obtain ⟨m,f,_,h1,h2⟩:=K5 Tryz.underlying51 h
 have:=F0 (row:=Aq2) (Q:=C9 Tryz.prog m 60) (g:=Df) (fun y b h=>Bxp _ y b h) (l:=x) (f:=f) h2
 change P5 f x.length+1≤b at h1
 omega
theorem Bqv(n:Nat)(y:Bo)(b:Nat)(h:C9 Tryz.prog n 161 (Ou y) b):Uh y≤b:=by
 obtain ⟨m,b0,_,hb,h⟩:=Nq Tryz.underlying161 h
 change P4 (C9 Tryz.prog m) [9,35,3,3,3] (Ou y) b0 at h
 obtain ⟨c0,d0,e0,g0,h⟩:=Av (Jj Tryz.underlying9 m) h
 obtain ⟨c1,d1,e1,g1,h⟩:=Av (Jt Tryz.underlying35 m) h
 obtain ⟨c2,d2,e2,g2,h⟩:=Av (Gh Tryz.underlying3 m) h
 obtain ⟨c3,d3,e3,g3,h⟩:=Av (Gh Tryz.underlying3 m) h
 obtain ⟨c4,d4,e4,g4,h⟩:=Av (Gh Tryz.underlying3 m) h
 have q0:(y.Routine.size+1)≤c0:=Ig Tryz.underlying9 g0
 have q1:(C3 (fun(z:Int)=>1) y.Args+1)≤c1:=A6x m _ _ g1
 have q2:1≤c2:=E5 g2
 have q3:1≤c3:=E5 g3
 have q4:1≤c4:=E5 g4
 unfold Uh
 omega
theorem Bxl(n:Nat)(x:(List Bo))(b:Nat)(h:C9 Tryz.prog n 52 [.lst false (.t161 x)] b):(C3 Uh x+1)≤b:=by
 obtain ⟨m,f,_,h1,h2⟩:=K5 Tryz.underlying52 h
 have:=F0 (row:=Ai9) (Q:=C9 Tryz.prog m 161) (g:=Uh) (fun y b h=>Bqv _ y b h) (l:=x) (f:=f) h2
 change P5 f x.length+1≤b at h1
 omega
theorem Bq1(n:Nat)(y:Aw)(b:Nat)(h:C9 Tryz.prog n 195 (Gk y) b):Xn y≤b:=by
 obtain ⟨m,b0,_,hb,h⟩:=Nq Tryz.underlying195 h
 change P4 (C9 Tryz.prog m) [3,9,9] (Gk y) b0 at h
 obtain ⟨c0,d0,e0,g0,h⟩:=Av (Gh Tryz.underlying3 m) h
 obtain ⟨c1,d1,e1,g1,h⟩:=Av (Jj Tryz.underlying9 m) h
 obtain ⟨c2,d2,e2,g2,h⟩:=Av (Jj Tryz.underlying9 m) h
 have q0:1≤c0:=E5 g0
 have q1:(y.What.size+1)≤c1:=Ig Tryz.underlying9 g1
 have q2:(y.Name.size+1)≤c2:=Ig Tryz.underlying9 g2
 unfold Xn
 omega
theorem Bqx(n:Nat)(x:(List Aw))(b:Nat)(h:C9 Tryz.prog n 178 [.lst false (.t195 x)] b):(C3 Xn x+1)≤b:=by
 obtain ⟨m,f,_,h1,h2⟩:=K5 Tryz.underlying178 h
 have:=F0 (row:=Aje) (Q:=C9 Tryz.prog m 195) (g:=Xn) (fun y b h=>Bq1 _ y b h) (l:=x) (f:=f) h2
 change P5 f x.length+1≤b at h1
 omega
theorem Bqy(n:Nat)(y:A9)(b:Nat)(h:C9 Tryz.prog n 180 (Dr y) b):Zz y≤b:=by
 obtain ⟨m,b0,_,hb,h⟩:=Nq Tryz.underlying180 h
 change P4 (C9 Tryz.prog m) [9,178,3] (Dr y) b0 at h
 obtain ⟨c0,d0,e0,g0,h⟩:=Av (Jj Tryz.underlying9 m) h
 obtain ⟨c1,d1,e1,g1,h⟩:=Av (Jt Tryz.underlying178 m) h
 obtain ⟨c2,d2,e2,g2,h⟩:=Av (Gh Tryz.underlying3 m) h
 have q0:(y.Name.size+1)≤c0:=Ig Tryz.underlying9 g0
 have q1:(C3 Xn y.Terms+1)≤c1:=Bqx m _ _ g1
 have q2:1≤c2:=E5 g2
 unfold Zz
 omega
theorem Bxm(n:Nat)(x:(List A9))(b:Nat)(h:C9 Tryz.prog n 53 [.lst false (.t180 x)] b):(C3 Zz x+1)≤b:=by
 obtain ⟨m,f,_,h1,h2⟩:=K5 Tryz.underlying53 h
 have:=F0 (row:=Ajb) (Q:=C9 Tryz.prog m 180) (g:=Zz) (fun y b h=>Bqy _ y b h) (l:=x) (f:=f) h2
 change P5 f x.length+1≤b at h1
 omega
theorem Bxn(n:Nat)(y:Aa)(b:Nat)(h:C9 Tryz.prog n 55 (Ae y) b):C2 y≤b:=by
 obtain ⟨m,b0,_,hb,h⟩:=Nq Tryz.underlying55 h
 change P4 (C9 Tryz.prog m) [9,22,47,48,49,50,50,50,50,50,51,52,53] (Ae y) b0 at h
 obtain ⟨c0,d0,e0,g0,h⟩:=Av (Jj Tryz.underlying9 m) h
 obtain ⟨c1,d1,e1,g1,h⟩:=Av (Jt Tryz.underlying22 m) h
 obtain ⟨c2,d2,e2,g2,h⟩:=Av (Jt Tryz.underlying47 m) h
 obtain ⟨c3,d3,e3,g3,h⟩:=Av (Jt Tryz.underlying48 m) h
 obtain ⟨c4,d4,e4,g4,h⟩:=Av (Jt Tryz.underlying49 m) h
 obtain ⟨c5,d5,e5,g5,h⟩:=Av (Jt Tryz.underlying50 m) h
 obtain ⟨c6,d6,e6,g6,h⟩:=Av (Jt Tryz.underlying50 m) h
 obtain ⟨c7,d7,e7,g7,h⟩:=Av (Jt Tryz.underlying50 m) h
 obtain ⟨c8,d8,e8,g8,h⟩:=Av (Jt Tryz.underlying50 m) h
 obtain ⟨c9,d9,e9,g9,h⟩:=Av (Jt Tryz.underlying50 m) h
 obtain ⟨c10,d10,e10,g10,h⟩:=Av (Jt Tryz.underlying51 m) h
 obtain ⟨c11,d11,e11,g11,h⟩:=Av (Jt Tryz.underlying52 m) h
 obtain ⟨c12,d12,e12,g12,h⟩:=Av (Jt Tryz.underlying53 m) h
 have q0:(y.Name.size+1)≤c0:=Ig Tryz.underlying9 g0
 have q1:(C3 Gt y.Vars+1)≤c1:=Boc m _ _ g1
 have q2:(C3 De y.Resources+1)≤c2:=Bxh m _ _ g2
 have q3:(C3 H6 y.Stores+1)≤c3:=Bxi m _ _ g3
 have q4:(C3 I6 y.Belts+1)≤c4:=Bxj m _ _ g4
 have q5:(C3 (fun(z:ByteArray)=>(z.size+1)) y.Queues+1)≤c5:=A01 m _ _ g5
 have q6:(C3 (fun(z:ByteArray)=>(z.size+1)) y.Streams+1)≤c6:=A01 m _ _ g6
 have q7:(C3 (fun(z:ByteArray)=>(z.size+1)) y.Tallies+1)≤c7:=A01 m _ _ g7
 have q8:(C3 (fun(z:ByteArray)=>(z.size+1)) y.Levels+1)≤c8:=A01 m _ _ g8
 have q9:(C3 (fun(z:ByteArray)=>(z.size+1)) y.Counts+1)≤c9:=A01 m _ _ g9
 have q10:(C3 Df y.Routines+1)≤c10:=Bxk m _ _ g10
 have q11:(C3 Uh y.Starts+1)≤c11:=Bxl m _ _ g11
 have q12:(C3 Zz y.Laws+1)≤c12:=Bxm m _ _ g12
 unfold C2
 omega
theorem Bxc(n:Nat)(x:(List Aa))(b:Nat)(h:C9 Tryz.prog n 23 [.lst false (.t55 x)] b):(C3 C2 x+1)≤b:=by
 obtain ⟨m,f,_,h1,h2⟩:=K5 Tryz.underlying23 h
 have:=F0 (row:=Aq1) (Q:=C9 Tryz.prog m 55) (g:=C2) (fun y b h=>Bxn _ y b h) (l:=x) (f:=f) h2
 change P5 f x.length+1≤b at h1
 omega
theorem Bqw(n:Nat)(y:Be)(b:Nat)(h:C9 Tryz.prog n 167 (Jv y) b):Ri y≤b:=by
 obtain ⟨m,b0,_,hb,h⟩:=Nq Tryz.underlying167 h
 change P4 (C9 Tryz.prog m) [9,9,3] (Jv y) b0 at h
 obtain ⟨c0,d0,e0,g0,h⟩:=Av (Jj Tryz.underlying9 m) h
 obtain ⟨c1,d1,e1,g1,h⟩:=Av (Jj Tryz.underlying9 m) h
 obtain ⟨c2,d2,e2,g2,h⟩:=Av (Gh Tryz.underlying3 m) h
 have q0:(y.From.size+1)≤c0:=Ig Tryz.underlying9 g0
 have q1:(y.To.size+1)≤c1:=Ig Tryz.underlying9 g1
 have q2:1≤c2:=E5 g2
 unfold Ri
 omega
theorem Bxd(n:Nat)(x:(List Be))(b:Nat)(h:C9 Tryz.prog n 24 [.lst false (.t167 x)] b):(C3 Ri x+1)≤b:=by
 obtain ⟨m,f,_,h1,h2⟩:=K5 Tryz.underlying24 h
 have:=F0 (row:=Aja) (Q:=C9 Tryz.prog m 167) (g:=Ri) (fun y b h=>Bqw _ y b h) (l:=x) (f:=f) h2
 change P5 f x.length+1≤b at h1
 omega
theorem Bxe(n:Nat)(y:Ad)(b:Nat)(h:C9 Tryz.prog n 26 (Ar y) b):Hl y≤b:=by
 obtain ⟨m,b0,_,hb,h⟩:=Nq Tryz.underlying26 h
 change P4 (C9 Tryz.prog m) [9,22,23,24] (Ar y) b0 at h
 obtain ⟨c0,d0,e0,g0,h⟩:=Av (Jj Tryz.underlying9 m) h
 obtain ⟨c1,d1,e1,g1,h⟩:=Av (Jt Tryz.underlying22 m) h
 obtain ⟨c2,d2,e2,g2,h⟩:=Av (Jt Tryz.underlying23 m) h
 obtain ⟨c3,d3,e3,g3,h⟩:=Av (Jt Tryz.underlying24 m) h
 have q0:(y.Name.size+1)≤c0:=Ig Tryz.underlying9 g0
 have q1:(C3 Gt y.Params+1)≤c1:=Boc m _ _ g1
 have q2:(C3 C2 y.Sites+1)≤c2:=Bxc m _ _ g2
 have q3:(C3 Ri y.Links+1)≤c3:=Bxd m _ _ g3
 unfold Hl
 omega
theorem Bxg(n:Nat)(y:Af)(b:Nat)(h:C9 Tryz.prog n 46 (Dy y) b):Sx y≤b:=by
 obtain ⟨m,b0,_,hb,h⟩:=Nq Tryz.underlying46 h
 change P4 (C9 Tryz.prog m) [9,35] (Dy y) b0 at h
 obtain ⟨c0,d0,e0,g0,h⟩:=Av (Jj Tryz.underlying9 m) h
 obtain ⟨c1,d1,e1,g1,h⟩:=Av (Jt Tryz.underlying35 m) h
 have q0:(y.Name.size+1)≤c0:=Ig Tryz.underlying9 g0
 have q1:(C3 (fun(z:Int)=>1) y.Levels+1)≤c1:=A6x m _ _ g1
 unfold Sx
 omega
theorem Bxf(n:Nat)(x:(List Af))(b:Nat)(h:C9 Tryz.prog n 27 [.lst false (.t46 x)] b):(C3 Sx x+1)≤b:=by
 obtain ⟨m,f,_,h1,h2⟩:=K5 Tryz.underlying27 h
 have:=F0 (row:=Aq0) (Q:=C9 Tryz.prog m 46) (g:=Sx) (fun y b h=>Bxg _ y b h) (l:=x) (f:=f) h2
 change P5 f x.length+1≤b at h1
 omega
end Go.Proofs.YtfencmicmnhglaaGreat.Ev
