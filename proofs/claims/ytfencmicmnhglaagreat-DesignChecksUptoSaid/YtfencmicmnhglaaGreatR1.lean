/-  What is read: its bulk. -/
import Derived.Test.YtfencmicmnhglaaGreatR0
import Derived.Test.YtfencmicmnhglaaGreatFz
namespace Go.Proofs.YtfencmicmnhglaaGreat.Ev
open Go An
set_option maxRecDepth 100000
set_option maxHeartbeats 4000000
set_option linter.unusedVariables false
set_option linter.unusedSimpArgs false
set_option linter.unnecessarySimpa false
mutual
def Cs:Ab→Nat
 | .mk a0 a1 a2 a3=>1+(a1.size+1)+1+(Uo a3+1)+1
def Uo:List Ab→Nat
 | []=>0
 |x::k=>Cs x+Uo k
end
theorem A18(l:List Ab):Uo l=Dl Cs l:=by
 induction l with
 |nil=>rw [Uo];rfl
 |cons x k ih=>rw [Uo,ih];rfl
theorem A5q(x:Ab):Cs x=1+(x.Name.size+1)+1+(Dl Cs x.Kids+1)+1:=by
 cases x with|mk a0 a1 a2 a3=>simp only [Cs,A18,Ab.Op,Ab.Name,Ab.N,Ab.Kids]
def J3(x:Au):Nat:=(x.Name.size+1)+1+1+1
def Vt(x:Cx):Nat:=1+1+1
def I0(x:Bj):Nat:=1+1+1+1+(Dl (fun(z:Int)=>1) x.Values+1)+(Dl (fun(z:Int)=>1) x.Weights+1)+1
def Ig(x:Ap):Nat:=(x.Name.size+1)+1+1
def Aas(x:Av):Nat:=1+(x.What.size+1)+(x.Name.size+1)+1
def Aea(x:Ba):Nat:=(x.Name.size+1)+(Dl Aas x.Terms+1)+1+1
def Lk(x:Gu):Nat:=(x.Stream.size+1)+I0 x.Up+I0 x.Down+1
def Du(x:Af):Nat:=(x.Name.size+1)+1+(Dl Vt x.Shift+1)+1+Lk x.Fault+1
mutual
def Dk:Ac→Nat
 | .mk a0 a1 a2 a3 a4 a5 a6 a7 a8 a9=>1+(a1.size+1)+(a2.size+1)+Cs a3+Cs a4+(Dl Cs a5+1)+I0 a6+1+(Em a8+1)+(Em a9+1)+1
def Em:List Ac→Nat
 | []=>0
 |x::k=>Dk x+Em k
end
theorem Qp(l:List Ac):Em l=Dl Dk l:=by
 induction l with
 |nil=>rw [Em];rfl
 |cons x k ih=>rw [Em,ih];rfl
theorem Arx(x:Ac):Dk x=1+(x.Name.size+1)+(x.Of.size+1)+Cs x.E+Cs x.F+(Dl Cs x.Args+1)+I0 x.Dist+1+(Dl Dk x.Body+1)+(Dl Dk x.Else+1)+1:=by
 cases x with|mk a0 a1 a2 a3 a4 a5 a6 a7 a8 a9=>simp only [Dk,Qp,Ac.Op,Ac.Name,Ac.Of,Ac.E,Ac.F,Ac.Args,Ac.Dist,Ac.Flag,Ac.Body,Ac.Else]
def C7(x:Ak):Nat:=(x.Name.size+1)+(Dl Ig x.Params+1)+(Dl Ig x.Locals+1)+(Dl Dk x.Body+1)+1
def Yk(x:Bm):Nat:=(x.Routine.size+1)+(Dl (fun(z:Int)=>1) x.Args+1)+1+1+1+1
def I1(x:Aq):Nat:=(x.Name.size+1)+1+1+1
def Ji(x:Al):Nat:=(x.Name.size+1)+1+1+1
def Df(x:Aa):Nat:=(x.Name.size+1)+(Dl Ji x.Vars+1)+(Dl Du x.Resources+1)+(Dl I1 x.Stores+1)+(Dl J3 x.Belts+1)+(Dl (fun(z:ByteArray)=>(z.size+1)) x.Queues+1)+(Dl (fun(z:ByteArray)=>(z.size+1)) x.Streams+1)+(Dl (fun(z:ByteArray)=>(z.size+1)) x.Tallies+1)+(Dl (fun(z:ByteArray)=>(z.size+1)) x.Levels+1)+(Dl (fun(z:ByteArray)=>(z.size+1)) x.Counts+1)+(Dl C7 x.Routines+1)+(Dl Yk x.Starts+1)+(Dl Aea x.Laws+1)+1
def Vu(x:Ah):Nat:=(x.Name.size+1)+(Dl (fun(z:Int)=>1) x.Levels+1)+1
def Ug(x:Bl):Nat:=(x.From.size+1)+(x.To.size+1)+1+1
def Ih(x:Ad):Nat:=(x.Name.size+1)+(Dl Ji x.Params+1)+(Dl Df x.Sites+1)+(Dl Ug x.Links+1)+1
theorem Cjl(n:Nat)(y:Al)(b:Nat)(h:Ds Tryz.prog n 77 (B3 y) b):Ji y≤b:=by
 obtain ⟨m,b0,_,hb,h⟩:=Qh Tryz.underlying77 h
 change S3 (Ds Tryz.prog m) [9,75,3] (B3 y) b0 at h
 obtain ⟨c0,d0,e0,g0,h⟩:=Az (Ke Tryz.underlying9 m) h
 obtain ⟨c1,d1,e1,g1,h⟩:=Az (Hl Tryz.underlying75 m) h
 obtain ⟨c2,d2,e2,g2,h⟩:=Az (Hl Tryz.underlying3 m) h
 have q0:(y.Name.size+1)≤c0:=Ja Tryz.underlying9 g0
 have q1:1≤c1:=Gg g1
 have q2:1≤c2:=Gg g2
 unfold Ji
 omega
theorem B7c(n:Nat)(x:(List Al))(b:Nat)(h:Ds Tryz.prog n 22 [.lst false (.t77 x)] b):(Dl Ji x+1)≤b:=by
 obtain ⟨m,f,_,h1,h2⟩:=Mk Tryz.underlying22 h
 have:=Gv (row:=A11) (Q:=Ds Tryz.prog m 77) (g:=Ji) (fun y b h=>Cjl _ y b h) (l:=x) (f:=f) h2
 change S5 f x.length+1≤b at h1
 omega
theorem Caw(n:Nat)(y:Cx)(b:Nat)(h:Ds Tryz.prog n 184 (Abo y) b):Vt y≤b:=by
 obtain ⟨m,b0,_,hb,h⟩:=Qh Tryz.underlying184 h
 change S3 (Ds Tryz.prog m) [3,3] (Abo y) b0 at h
 obtain ⟨c0,d0,e0,g0,h⟩:=Az (Hl Tryz.underlying3 m) h
 obtain ⟨c1,d1,e1,g1,h⟩:=Az (Hl Tryz.underlying3 m) h
 have q0:1≤c0:=Gg g0
 have q1:1≤c1:=Gg g1
 unfold Vt
 omega
theorem Can(n:Nat)(x:(List Cx))(b:Nat)(h:Ds Tryz.prog n 141 [.lst false (.t184 x)] b):(Dl Vt x+1)≤b:=by
 obtain ⟨m,f,_,h1,h2⟩:=Mk Tryz.underlying141 h
 have:=Gv (row:=As3) (Q:=Ds Tryz.prog m 184) (g:=Vt) (fun y b h=>Caw _ y b h) (l:=x) (f:=f) h2
 change S5 f x.length+1≤b at h1
 omega
theorem Bl9(n:Nat)(x:(List Int))(b:Nat)(h:Ds Tryz.prog n 35 [.lst false (.t3 x)] b):(Dl (fun(z:Int)=>1) x+1)≤b:=by
 obtain ⟨m,f,_,h1,h2⟩:=Mk Tryz.underlying35 h
 have:=Gv (row:=Bik) (Q:=Ds Tryz.prog m 3) (g:=(fun(z:Int)=>1)) (fun y b h=>Gg h) (l:=x) (f:=f) h2
 change S5 f x.length+1≤b at h1
 omega
theorem Bu9(n:Nat)(y:Bj)(b:Nat)(h:Ds Tryz.prog n 97 (Ur y) b):I0 y≤b:=by
 obtain ⟨m,b0,_,hb,h⟩:=Qh Tryz.underlying97 h
 change S3 (Ds Tryz.prog m) [95,3,3,3,35,35] (Ur y) b0 at h
 obtain ⟨c0,d0,e0,g0,h⟩:=Az (Hl Tryz.underlying95 m) h
 obtain ⟨c1,d1,e1,g1,h⟩:=Az (Hl Tryz.underlying3 m) h
 obtain ⟨c2,d2,e2,g2,h⟩:=Az (Hl Tryz.underlying3 m) h
 obtain ⟨c3,d3,e3,g3,h⟩:=Az (Hl Tryz.underlying3 m) h
 obtain ⟨c4,d4,e4,g4,h⟩:=Az (Kp Tryz.underlying35 m) h
 obtain ⟨c5,d5,e5,g5,h⟩:=Az (Kp Tryz.underlying35 m) h
 have q0:1≤c0:=Gg g0
 have q1:1≤c1:=Gg g1
 have q2:1≤c2:=Gg g2
 have q3:1≤c3:=Gg g3
 have q4:(Dl (fun(z:Int)=>1) y.Values+1)≤c4:=Bl9 m _ _ g4
 have q5:(Dl (fun(z:Int)=>1) y.Weights+1)≤c5:=Bl9 m _ _ g5
 unfold I0
 omega
theorem Cao(n:Nat)(y:Gu)(b:Nat)(h:Ds Tryz.prog n 143 (Uh y) b):Lk y≤b:=by
 obtain ⟨m,b0,_,hb,h⟩:=Qh Tryz.underlying143 h
 change S3 (Ds Tryz.prog m) [9,97,97] (Uh y) b0 at h
 obtain ⟨c0,d0,e0,g0,h⟩:=Az (Ke Tryz.underlying9 m) h
 obtain ⟨c1,d1,e1,g1,h⟩:=Az (w97 m) h
 obtain ⟨c2,d2,e2,g2,h⟩:=Az (w97 m) h
 have q0:(y.Stream.size+1)≤c0:=Ja Tryz.underlying9 g0
 have q1:I0 y.Up≤c1:=Bu9 m _ _ g1
 have q2:I0 y.Down≤c2:=Bu9 m _ _ g2
 unfold Lk
 omega
theorem Cap(n:Nat)(y:Af)(b:Nat)(h:Ds Tryz.prog n 145 (Bq y) b):Du y≤b:=by
 obtain ⟨m,b0,_,hb,h⟩:=Qh Tryz.underlying145 h
 change S3 (Ds Tryz.prog m) [9,3,141,3,143] (Bq y) b0 at h
 obtain ⟨c0,d0,e0,g0,h⟩:=Az (Ke Tryz.underlying9 m) h
 obtain ⟨c1,d1,e1,g1,h⟩:=Az (Hl Tryz.underlying3 m) h
 obtain ⟨c2,d2,e2,g2,h⟩:=Az (Kp Tryz.underlying141 m) h
 obtain ⟨c3,d3,e3,g3,h⟩:=Az (Hl Tryz.underlying3 m) h
 obtain ⟨c4,d4,e4,g4,h⟩:=Az (Cos m) h
 have q0:(y.Name.size+1)≤c0:=Ja Tryz.underlying9 g0
 have q1:1≤c1:=Gg g1
 have q2:(Dl Vt y.Shift+1)≤c2:=Can m _ _ g2
 have q3:1≤c3:=Gg g3
 have q4:Lk y.Fault≤c4:=Cao m _ _ g4
 unfold Du
 omega
theorem Cjc(n:Nat)(x:(List Af))(b:Nat)(h:Ds Tryz.prog n 47 [.lst false (.t145 x)] b):(Dl Du x+1)≤b:=by
 obtain ⟨m,f,_,h1,h2⟩:=Mk Tryz.underlying47 h
 have:=Gv (row:=Asx) (Q:=Ds Tryz.prog m 145) (g:=Du) (fun y b h=>Cap _ y b h) (l:=x) (f:=f) h2
 change S5 f x.length+1≤b at h1
 omega
theorem Caq(n:Nat)(y:Aq)(b:Nat)(h:Ds Tryz.prog n 151 (Cv y) b):I1 y≤b:=by
 obtain ⟨m,b0,_,hb,h⟩:=Qh Tryz.underlying151 h
 change S3 (Ds Tryz.prog m) [9,3,149] (Cv y) b0 at h
 obtain ⟨c0,d0,e0,g0,h⟩:=Az (Ke Tryz.underlying9 m) h
 obtain ⟨c1,d1,e1,g1,h⟩:=Az (Hl Tryz.underlying3 m) h
 obtain ⟨c2,d2,e2,g2,h⟩:=Az (Hl Tryz.underlying149 m) h
 have q0:(y.Name.size+1)≤c0:=Ja Tryz.underlying9 g0
 have q1:1≤c1:=Gg g1
 have q2:1≤c2:=Gg g2
 unfold I1
 omega
theorem Cjd(n:Nat)(x:(List Aq))(b:Nat)(h:Ds Tryz.prog n 48 [.lst false (.t151 x)] b):(Dl I1 x+1)≤b:=by
 obtain ⟨m,f,_,h1,h2⟩:=Mk Tryz.underlying48 h
 have:=Gv (row:=Asy) (Q:=Ds Tryz.prog m 151) (g:=I1) (fun y b h=>Caq _ y b h) (l:=x) (f:=f) h2
 change S5 f x.length+1≤b at h1
 omega
theorem Car(n:Nat)(y:Au)(b:Nat)(h:Ds Tryz.prog n 155 (Cz y) b):J3 y≤b:=by
 obtain ⟨m,b0,_,hb,h⟩:=Qh Tryz.underlying155 h
 change S3 (Ds Tryz.prog m) [9,3,3] (Cz y) b0 at h
 obtain ⟨c0,d0,e0,g0,h⟩:=Az (Ke Tryz.underlying9 m) h
 obtain ⟨c1,d1,e1,g1,h⟩:=Az (Hl Tryz.underlying3 m) h
 obtain ⟨c2,d2,e2,g2,h⟩:=Az (Hl Tryz.underlying3 m) h
 have q0:(y.Name.size+1)≤c0:=Ja Tryz.underlying9 g0
 have q1:1≤c1:=Gg g1
 have q2:1≤c2:=Gg g2
 unfold J3
 omega
theorem Cje(n:Nat)(x:(List Au))(b:Nat)(h:Ds Tryz.prog n 49 [.lst false (.t155 x)] b):(Dl J3 x+1)≤b:=by
 obtain ⟨m,f,_,h1,h2⟩:=Mk Tryz.underlying49 h
 have:=Gv (row:=Asz) (Q:=Ds Tryz.prog m 155) (g:=J3) (fun y b h=>Car _ y b h) (l:=x) (f:=f) h2
 change S5 f x.length+1≤b at h1
 omega
theorem Bfi(n:Nat)(x:(List ByteArray))(b:Nat)(h:Ds Tryz.prog n 50 [.lst false (.t9 x)] b):(Dl (fun(z:ByteArray)=>(z.size+1)) x+1)≤b:=by
 obtain ⟨m,f,_,h1,h2⟩:=Mk Tryz.underlying50 h
 have:=Gv (row:=Bim) (Q:=Ds Tryz.prog m 9) (g:=(fun(z:ByteArray)=>(z.size+1))) (fun y b h=>Ja Tryz.underlying9 h) (l:=x) (f:=f) h2
 change S5 f x.length+1≤b at h1
 omega
theorem Cax(n:Nat)(y:Ap)(b:Nat)(h:Ds Tryz.prog n 190 (N3 y) b):Ig y≤b:=by
 obtain ⟨m,b0,_,hb,h⟩:=Qh Tryz.underlying190 h
 change S3 (Ds Tryz.prog m) [9,75] (N3 y) b0 at h
 obtain ⟨c0,d0,e0,g0,h⟩:=Az (Ke Tryz.underlying9 m) h
 obtain ⟨c1,d1,e1,g1,h⟩:=Az (Hl Tryz.underlying75 m) h
 have q0:(y.Name.size+1)≤c0:=Ja Tryz.underlying9 g0
 have q1:1≤c1:=Gg g1
 unfold Ig
 omega
theorem B7d(n:Nat)(x:(List Ap))(b:Nat)(h:Ds Tryz.prog n 57 [.lst false (.t190 x)] b):(Dl Ig x+1)≤b:=by
 obtain ⟨m,f,_,h1,h2⟩:=Mk Tryz.underlying57 h
 have:=Gv (row:=As4) (Q:=Ds Tryz.prog m 190) (g:=Ig) (fun y b h=>Cax _ y b h) (l:=x) (f:=f) h2
 change S5 f x.length+1≤b at h1
 omega
theorem Ci5:∀n,(∀(y:Ab) (b:Nat),Ds Tryz.prog n 94 (Dd y) b→Cs y≤b):=by
 intro n
 induction n using Nat.strongRecOn with
 |_ n ih=>
 refine ?_
 ·intro y b h
  obtain ⟨m,b0,hm,hb,h⟩:=Qh Tryz.underlying94 h
  change S3 (Ds Tryz.prog m) [91,9,3,92] (Dd y) b0 at h
  rw [A5q]
  cases y with
  |mk a0 a1 a2 a3=>
  obtain ⟨c0,d0,e0,g0,h⟩:=Az (Hl Tryz.underlying91 m) h
  obtain ⟨c1,d1,e1,g1,h⟩:=Az (Ke Tryz.underlying9 m) h
  obtain ⟨c2,d2,e2,g2,h⟩:=Az (Hl Tryz.underlying3 m) h
  obtain ⟨c3,d3,e3,g3,h⟩:=Az (Kp Tryz.underlying92 m) h
  have q0:1≤c0:=Gg g0
  have q1:(a1.size+1)≤c1:=Ja Tryz.underlying9 g1
  have q2:1≤c2:=Gg g2
  have q3:Dl Cs a3+1≤c3:=by
   obtain ⟨m2,f,hm2,h1,h2⟩:=Mk Tryz.underlying92 g3
   have:=Gv (row:=Aup) (Q:=Ds Tryz.prog m2 94) (g:=Cs) (fun y b h=>(ih m2 (by omega)) y b h) (l:=a3) (f:=f) h2
   change S5 f a3.length+1≤c3 at h1
   omega
  simp only [Ab.Op,Ab.Name,Ab.N,Ab.Kids]
  omega
theorem Bu8(n:Nat)(y:Ab)(b:Nat)(h:Ds Tryz.prog n 94 (Dd y) b):Cs y≤b:=(Ci5 n) y b h
theorem Cjm(n:Nat)(x:(List Ab))(b:Nat)(h:Ds Tryz.prog n 92 [.lst false (.t94 x)] b):(Dl Cs x+1)≤b:=by
 obtain ⟨m,f,_,h1,h2⟩:=Mk Tryz.underlying92 h
 have:=Gv (row:=Aup) (Q:=Ds Tryz.prog m 94) (g:=Cs) (fun y b h=>Bu8 _ y b h) (l:=x) (f:=f) h2
 change S5 f x.length+1≤b at h1
 omega
theorem Ci6:∀n,(∀(y:Ac) (b:Nat),Ds Tryz.prog n 99 (C5 y) b→Dk y≤b):=by
 intro n
 induction n using Nat.strongRecOn with
 |_ n ih=>
 refine ?_
 ·intro y b h
  obtain ⟨m,b0,hm,hb,h⟩:=Qh Tryz.underlying99 h
  change S3 (Ds Tryz.prog m) [90,9,9,94,94,92,97,4,58,58] (C5 y) b0 at h
  rw [Arx]
  cases y with
  |mk a0 a1 a2 a3 a4 a5 a6 a7 a8 a9=>
  obtain ⟨c0,d0,e0,g0,h⟩:=Az (Hl Tryz.underlying90 m) h
  obtain ⟨c1,d1,e1,g1,h⟩:=Az (Ke Tryz.underlying9 m) h
  obtain ⟨c2,d2,e2,g2,h⟩:=Az (Ke Tryz.underlying9 m) h
  obtain ⟨c3,d3,e3,g3,h⟩:=Az (w94 m) h
  obtain ⟨c4,d4,e4,g4,h⟩:=Az (w94 m) h
  obtain ⟨c5,d5,e5,g5,h⟩:=Az (Kp Tryz.underlying92 m) h
  obtain ⟨c6,d6,e6,g6,h⟩:=Az (w97 m) h
  obtain ⟨c7,d7,e7,g7,h⟩:=Az (Bzc Tryz.underlying4 m) h
  obtain ⟨c8,d8,e8,g8,h⟩:=Az (Kp Tryz.underlying58 m) h
  obtain ⟨c9,d9,e9,g9,h⟩:=Az (Kp Tryz.underlying58 m) h
  have q0:1≤c0:=Gg g0
  have q1:(a1.size+1)≤c1:=Ja Tryz.underlying9 g1
  have q2:(a2.size+1)≤c2:=Ja Tryz.underlying9 g2
  have q3:Cs a3≤c3:=Bu8 m _ _ g3
  have q4:Cs a4≤c4:=Bu8 m _ _ g4
  have q5:(Dl Cs a5+1)≤c5:=Cjm m _ _ g5
  have q6:I0 a6≤c6:=Bu9 m _ _ g6
  have q7:1≤c7:=Gg g7
  have q8:Dl Dk a8+1≤c8:=by
   obtain ⟨m2,f,hm2,h1,h2⟩:=Mk Tryz.underlying58 g8
   have:=Gv (row:=Aqn) (Q:=Ds Tryz.prog m2 99) (g:=Dk) (fun y b h=>(ih m2 (by omega)) y b h) (l:=a8) (f:=f) h2
   change S5 f a8.length+1≤c8 at h1
   omega
  have q9:Dl Dk a9+1≤c9:=by
   obtain ⟨m2,f,hm2,h1,h2⟩:=Mk Tryz.underlying58 g9
   have:=Gv (row:=Aqn) (Q:=Ds Tryz.prog m2 99) (g:=Dk) (fun y b h=>(ih m2 (by omega)) y b h) (l:=a9) (f:=f) h2
   change S5 f a9.length+1≤c9 at h1
   omega
  simp only [Ac.Op,Ac.Name,Ac.Of,Ac.E,Ac.F,Ac.Args,Ac.Dist,Ac.Flag,Ac.Body,Ac.Else]
  omega
theorem Cjn(n:Nat)(y:Ac)(b:Nat)(h:Ds Tryz.prog n 99 (C5 y) b):Dk y≤b:=(Ci6 n) y b h
theorem Cjj(n:Nat)(x:(List Ac))(b:Nat)(h:Ds Tryz.prog n 58 [.lst false (.t99 x)] b):(Dl Dk x+1)≤b:=by
 obtain ⟨m,f,_,h1,h2⟩:=Mk Tryz.underlying58 h
 have:=Gv (row:=Aqn) (Q:=Ds Tryz.prog m 99) (g:=Dk) (fun y b h=>Cjn _ y b h) (l:=x) (f:=f) h2
 change S5 f x.length+1≤b at h1
 omega
theorem Cjk(n:Nat)(y:Ak)(b:Nat)(h:Ds Tryz.prog n 60 (B5 y) b):C7 y≤b:=by
 obtain ⟨m,b0,_,hb,h⟩:=Qh Tryz.underlying60 h
 change S3 (Ds Tryz.prog m) [9,57,57,58] (B5 y) b0 at h
 obtain ⟨c0,d0,e0,g0,h⟩:=Az (Ke Tryz.underlying9 m) h
 obtain ⟨c1,d1,e1,g1,h⟩:=Az (Kp Tryz.underlying57 m) h
 obtain ⟨c2,d2,e2,g2,h⟩:=Az (Kp Tryz.underlying57 m) h
 obtain ⟨c3,d3,e3,g3,h⟩:=Az (Kp Tryz.underlying58 m) h
 have q0:(y.Name.size+1)≤c0:=Ja Tryz.underlying9 g0
 have q1:(Dl Ig y.Params+1)≤c1:=B7d m _ _ g1
 have q2:(Dl Ig y.Locals+1)≤c2:=B7d m _ _ g2
 have q3:(Dl Dk y.Body+1)≤c3:=Cjj m _ _ g3
 unfold C7
 omega
theorem Cjf(n:Nat)(x:(List Ak))(b:Nat)(h:Ds Tryz.prog n 51 [.lst false (.t60 x)] b):(Dl C7 x+1)≤b:=by
 obtain ⟨m,f,_,h1,h2⟩:=Mk Tryz.underlying51 h
 have:=Gv (row:=A10) (Q:=Ds Tryz.prog m 60) (g:=C7) (fun y b h=>Cjk _ y b h) (l:=x) (f:=f) h2
 change S5 f x.length+1≤b at h1
 omega
theorem Cas(n:Nat)(y:Bm)(b:Nat)(h:Ds Tryz.prog n 161 (N4 y) b):Yk y≤b:=by
 obtain ⟨m,b0,_,hb,h⟩:=Qh Tryz.underlying161 h
 change S3 (Ds Tryz.prog m) [9,35,3,3,3] (N4 y) b0 at h
 obtain ⟨c0,d0,e0,g0,h⟩:=Az (Ke Tryz.underlying9 m) h
 obtain ⟨c1,d1,e1,g1,h⟩:=Az (Kp Tryz.underlying35 m) h
 obtain ⟨c2,d2,e2,g2,h⟩:=Az (Hl Tryz.underlying3 m) h
 obtain ⟨c3,d3,e3,g3,h⟩:=Az (Hl Tryz.underlying3 m) h
 obtain ⟨c4,d4,e4,g4,h⟩:=Az (Hl Tryz.underlying3 m) h
 have q0:(y.Routine.size+1)≤c0:=Ja Tryz.underlying9 g0
 have q1:(Dl (fun(z:Int)=>1) y.Args+1)≤c1:=Bl9 m _ _ g1
 have q2:1≤c2:=Gg g2
 have q3:1≤c3:=Gg g3
 have q4:1≤c4:=Gg g4
 unfold Yk
 omega
theorem Cjg(n:Nat)(x:(List Bm))(b:Nat)(h:Ds Tryz.prog n 52 [.lst false (.t161 x)] b):(Dl Yk x+1)≤b:=by
 obtain ⟨m,f,_,h1,h2⟩:=Mk Tryz.underlying52 h
 have:=Gv (row:=As0) (Q:=Ds Tryz.prog m 161) (g:=Yk) (fun y b h=>Cas _ y b h) (l:=x) (f:=f) h2
 change S5 f x.length+1≤b at h1
 omega
theorem Cay(n:Nat)(y:Av)(b:Nat)(h:Ds Tryz.prog n 195 (Ef y) b):Aas y≤b:=by
 obtain ⟨m,b0,_,hb,h⟩:=Qh Tryz.underlying195 h
 change S3 (Ds Tryz.prog m) [3,9,9] (Ef y) b0 at h
 obtain ⟨c0,d0,e0,g0,h⟩:=Az (Hl Tryz.underlying3 m) h
 obtain ⟨c1,d1,e1,g1,h⟩:=Az (Ke Tryz.underlying9 m) h
 obtain ⟨c2,d2,e2,g2,h⟩:=Az (Ke Tryz.underlying9 m) h
 have q0:1≤c0:=Gg g0
 have q1:(y.What.size+1)≤c1:=Ja Tryz.underlying9 g1
 have q2:(y.Name.size+1)≤c2:=Ja Tryz.underlying9 g2
 unfold Aas
 omega
theorem Cau(n:Nat)(x:(List Av))(b:Nat)(h:Ds Tryz.prog n 178 [.lst false (.t195 x)] b):(Dl Aas x+1)≤b:=by
 obtain ⟨m,f,_,h1,h2⟩:=Mk Tryz.underlying178 h
 have:=Gv (row:=As5) (Q:=Ds Tryz.prog m 195) (g:=Aas) (fun y b h=>Cay _ y b h) (l:=x) (f:=f) h2
 change S5 f x.length+1≤b at h1
 omega
theorem Cav(n:Nat)(y:Ba)(b:Nat)(h:Ds Tryz.prog n 180 (De y) b):Aea y≤b:=by
 obtain ⟨m,b0,_,hb,h⟩:=Qh Tryz.underlying180 h
 change S3 (Ds Tryz.prog m) [9,178,3] (De y) b0 at h
 obtain ⟨c0,d0,e0,g0,h⟩:=Az (Ke Tryz.underlying9 m) h
 obtain ⟨c1,d1,e1,g1,h⟩:=Az (Kp Tryz.underlying178 m) h
 obtain ⟨c2,d2,e2,g2,h⟩:=Az (Hl Tryz.underlying3 m) h
 have q0:(y.Name.size+1)≤c0:=Ja Tryz.underlying9 g0
 have q1:(Dl Aas y.Terms+1)≤c1:=Cau m _ _ g1
 have q2:1≤c2:=Gg g2
 unfold Aea
 omega
theorem Cjh(n:Nat)(x:(List Ba))(b:Nat)(h:Ds Tryz.prog n 53 [.lst false (.t180 x)] b):(Dl Aea x+1)≤b:=by
 obtain ⟨m,f,_,h1,h2⟩:=Mk Tryz.underlying53 h
 have:=Gv (row:=As2) (Q:=Ds Tryz.prog m 180) (g:=Aea) (fun y b h=>Cav _ y b h) (l:=x) (f:=f) h2
 change S5 f x.length+1≤b at h1
 omega
theorem Cji(n:Nat)(y:Aa)(b:Nat)(h:Ds Tryz.prog n 55 (Ae y) b):Df y≤b:=by
 obtain ⟨m,b0,_,hb,h⟩:=Qh Tryz.underlying55 h
 change S3 (Ds Tryz.prog m) [9,22,47,48,49,50,50,50,50,50,51,52,53] (Ae y) b0 at h
 obtain ⟨c0,d0,e0,g0,h⟩:=Az (Ke Tryz.underlying9 m) h
 obtain ⟨c1,d1,e1,g1,h⟩:=Az (Kp Tryz.underlying22 m) h
 obtain ⟨c2,d2,e2,g2,h⟩:=Az (Kp Tryz.underlying47 m) h
 obtain ⟨c3,d3,e3,g3,h⟩:=Az (Kp Tryz.underlying48 m) h
 obtain ⟨c4,d4,e4,g4,h⟩:=Az (Kp Tryz.underlying49 m) h
 obtain ⟨c5,d5,e5,g5,h⟩:=Az (Kp Tryz.underlying50 m) h
 obtain ⟨c6,d6,e6,g6,h⟩:=Az (Kp Tryz.underlying50 m) h
 obtain ⟨c7,d7,e7,g7,h⟩:=Az (Kp Tryz.underlying50 m) h
 obtain ⟨c8,d8,e8,g8,h⟩:=Az (Kp Tryz.underlying50 m) h
 obtain ⟨c9,d9,e9,g9,h⟩:=Az (Kp Tryz.underlying50 m) h
 obtain ⟨c10,d10,e10,g10,h⟩:=Az (Kp Tryz.underlying51 m) h
 obtain ⟨c11,d11,e11,g11,h⟩:=Az (Kp Tryz.underlying52 m) h
 obtain ⟨c12,d12,e12,g12,h⟩:=Az (Kp Tryz.underlying53 m) h
 have q0:(y.Name.size+1)≤c0:=Ja Tryz.underlying9 g0
 have q1:(Dl Ji y.Vars+1)≤c1:=B7c m _ _ g1
 have q2:(Dl Du y.Resources+1)≤c2:=Cjc m _ _ g2
 have q3:(Dl I1 y.Stores+1)≤c3:=Cjd m _ _ g3
 have q4:(Dl J3 y.Belts+1)≤c4:=Cje m _ _ g4
 have q5:(Dl (fun(z:ByteArray)=>(z.size+1)) y.Queues+1)≤c5:=Bfi m _ _ g5
 have q6:(Dl (fun(z:ByteArray)=>(z.size+1)) y.Streams+1)≤c6:=Bfi m _ _ g6
 have q7:(Dl (fun(z:ByteArray)=>(z.size+1)) y.Tallies+1)≤c7:=Bfi m _ _ g7
 have q8:(Dl (fun(z:ByteArray)=>(z.size+1)) y.Levels+1)≤c8:=Bfi m _ _ g8
 have q9:(Dl (fun(z:ByteArray)=>(z.size+1)) y.Counts+1)≤c9:=Bfi m _ _ g9
 have q10:(Dl C7 y.Routines+1)≤c10:=Cjf m _ _ g10
 have q11:(Dl Yk y.Starts+1)≤c11:=Cjg m _ _ g11
 have q12:(Dl Aea y.Laws+1)≤c12:=Cjh m _ _ g12
 unfold Df
 omega
theorem Ci7(n:Nat)(x:(List Aa))(b:Nat)(h:Ds Tryz.prog n 23 [.lst false (.t55 x)] b):(Dl Df x+1)≤b:=by
 obtain ⟨m,f,_,h1,h2⟩:=Mk Tryz.underlying23 h
 have:=Gv (row:=A1z) (Q:=Ds Tryz.prog m 55) (g:=Df) (fun y b h=>Cji _ y b h) (l:=x) (f:=f) h2
 change S5 f x.length+1≤b at h1
 omega
theorem Cat(n:Nat)(y:Bl)(b:Nat)(h:Ds Tryz.prog n 167 (Jj y) b):Ug y≤b:=by
 obtain ⟨m,b0,_,hb,h⟩:=Qh Tryz.underlying167 h
 change S3 (Ds Tryz.prog m) [9,9,3] (Jj y) b0 at h
 obtain ⟨c0,d0,e0,g0,h⟩:=Az (Ke Tryz.underlying9 m) h
 obtain ⟨c1,d1,e1,g1,h⟩:=Az (Ke Tryz.underlying9 m) h
 obtain ⟨c2,d2,e2,g2,h⟩:=Az (Hl Tryz.underlying3 m) h
 have q0:(y.From.size+1)≤c0:=Ja Tryz.underlying9 g0
 have q1:(y.To.size+1)≤c1:=Ja Tryz.underlying9 g1
 have q2:1≤c2:=Gg g2
 unfold Ug
 omega
theorem Ci8(n:Nat)(x:(List Bl))(b:Nat)(h:Ds Tryz.prog n 24 [.lst false (.t167 x)] b):(Dl Ug x+1)≤b:=by
 obtain ⟨m,f,_,h1,h2⟩:=Mk Tryz.underlying24 h
 have:=Gv (row:=As1) (Q:=Ds Tryz.prog m 167) (g:=Ug) (fun y b h=>Cat _ y b h) (l:=x) (f:=f) h2
 change S5 f x.length+1≤b at h1
 omega
theorem Ci9(n:Nat)(y:Ad)(b:Nat)(h:Ds Tryz.prog n 26 (Aw y) b):Ih y≤b:=by
 obtain ⟨m,b0,_,hb,h⟩:=Qh Tryz.underlying26 h
 change S3 (Ds Tryz.prog m) [9,22,23,24] (Aw y) b0 at h
 obtain ⟨c0,d0,e0,g0,h⟩:=Az (Ke Tryz.underlying9 m) h
 obtain ⟨c1,d1,e1,g1,h⟩:=Az (Kp Tryz.underlying22 m) h
 obtain ⟨c2,d2,e2,g2,h⟩:=Az (Kp Tryz.underlying23 m) h
 obtain ⟨c3,d3,e3,g3,h⟩:=Az (Kp Tryz.underlying24 m) h
 have q0:(y.Name.size+1)≤c0:=Ja Tryz.underlying9 g0
 have q1:(Dl Ji y.Params+1)≤c1:=B7c m _ _ g1
 have q2:(Dl Df y.Sites+1)≤c2:=Ci7 m _ _ g2
 have q3:(Dl Ug y.Links+1)≤c3:=Ci8 m _ _ g3
 unfold Ih
 omega
theorem Cjb(n:Nat)(y:Ah)(b:Nat)(h:Ds Tryz.prog n 46 (Ed y) b):Vu y≤b:=by
 obtain ⟨m,b0,_,hb,h⟩:=Qh Tryz.underlying46 h
 change S3 (Ds Tryz.prog m) [9,35] (Ed y) b0 at h
 obtain ⟨c0,d0,e0,g0,h⟩:=Az (Ke Tryz.underlying9 m) h
 obtain ⟨c1,d1,e1,g1,h⟩:=Az (Kp Tryz.underlying35 m) h
 have q0:(y.Name.size+1)≤c0:=Ja Tryz.underlying9 g0
 have q1:(Dl (fun(z:Int)=>1) y.Levels+1)≤c1:=Bl9 m _ _ g1
 unfold Vu
 omega
theorem Cja(n:Nat)(x:(List Ah))(b:Nat)(h:Ds Tryz.prog n 27 [.lst false (.t46 x)] b):(Dl Vu x+1)≤b:=by
 obtain ⟨m,f,_,h1,h2⟩:=Mk Tryz.underlying27 h
 have:=Gv (row:=A1y) (Q:=Ds Tryz.prog m 46) (g:=Vu) (fun y b h=>Cjb _ y b h) (l:=x) (f:=f) h2
 change S5 f x.length+1≤b at h1
 omega
end Go.Proofs.YtfencmicmnhglaaGreat.Ev
