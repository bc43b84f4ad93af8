/-  bF is read, and its bulk. -/
import Derived.Test.YtgacplpjamkieaaGreatHG0
import Derived.Test.YtgacplpjamkieaaGreatHFz
set_option maxRecDepth 100000
set_option maxHeartbeats 4000000
set_option linter.unusedVariables false
set_option linter.unusedSimpArgs false
set_option linter.unnecessarySimpa false
namespace Go.Proofs.YtgacplpjamkieaaGreat.Ev
open Go An
inductive Bw:Aa->Prop
 |mk (a0:Int) (a1:Yb) (a2:Int) (a3:(List Aa)) (h0_0:okI .i64 a0) (h1_0:okS a1) (h2_0:okI .i64 a2) (h3_0:a3.length<=maxLen) (h3_1:∀y∈a3,Bw y):Bw (.mk a0 a1 a2 a3)
mutual
def Bx:Aa->Nat
 | .mk a0 a1 a2 a3=>(1+((a1.size+1)+(1+((Ds a3+1)))))+1
def Ds:List Aa->Nat
 | []=>0
 |x::k=>Bx x+Ds k
end
theorem Aop(l:List Aa):Ds l=Iy Bx l:=by
 induction l with
 |nil=>rw[Ds];rfl
 |cons x k ih=>rw[Ds,ih];rfl
theorem Aq0(x:Aa):Bx x=(1+((x.aD.size+1)+(1+((Iy Bx x.aQ+1)))))+1:=by
 cases x with|mk a0 a1 a2 a3=>simp only[Bx,Aop,Aa.Op,Aa.aD,Aa.N,Aa.aQ]
def Vd(x:Av):Prop:=okS x.aD/\okI .i64 x.Length/\okI .i64 x.Step
def Lp(x:Av):Nat:=((x.aD.size+1)+(1+1))+1
def f0(x:P7):Prop:=okI .i64 x.At/\okI .i64 x.Units
def g8(x:P7):Nat:=(1+1)+1
def Y4(x:Ah):Prop:=okI .i64 x.Op/\okI .i64 x.A/\okI .i64 x.B/\okI .i64 x.N/\(x.bN.length<=maxLen/\∀y∈x.bN,okI .i64 y)/\(x.bI.length<=maxLen/\∀y∈x.bI,okI .i64 y)
def U1(x:Ah):Nat:=(1+(1+(1+(1+((Iy (λ(z:Int)=>1) x.bN+1)+((Iy (λ(z:Int)=>1) x.bI+1)))))))+1
def Ri(x:Aw):Prop:=okS x.aD/\okI .i64 x.bL
def Rq(x:Aw):Nat:=((x.aD.size+1)+1)+1
def Afh(x:Cb):Prop:=okI .i64 x.bP/\okS x.bF/\okS x.aD
def Af0(x:Cb):Nat:=(1+((x.bF.size+1)+((x.aD.size+1))))+1
def Aia(x:Bh):Prop:=okS x.aD/\(x.eX.length<=maxLen/\∀y∈x.eX,Afh y)/\okI .i64 x.Total
def Aik(x:Bh):Nat:=((x.aD.size+1)+((Iy Af0 x.eX+1)+1))+1
def Ajl(x:Qi):Prop:=okS x.dO/\Y4 x.Up/\Y4 x.Down
def Ajw(x:Qi):Nat:=((x.dO.size+1)+(U1 x.Up+U1 x.Down))+1
def Oq(x:Ai):Prop:=okS x.aD/\okI .i64 x.Units/\(x.cO.length<=maxLen/\∀y∈x.cO,f0 y)/\okI .i64 x.fJ/\Ajl x.dA
def Iq(x:Ai):Nat:=((x.aD.size+1)+(1+((Iy g8 x.cO+1)+(1+Ajw x.dA))))+1
inductive Mw:Ae->Prop
 |mk (a0:Int) (a1:Yb) (a2:Yb) (a3:Aa) (a4:Aa) (a5:(List Aa)) (a6:Ah) (a7:Bool) (a8:(List Ae)) (a9:(List Ae)) (h0_0:okI .i64 a0) (h1_0:okS a1) (h2_0:okS a2) (h3_0:Bw a3) (h4_0:Bw a4) (h5_0:a5.length<=maxLen) (h5_1:∀y∈a5,Bw y) (h6_0:Y4 a6) (h7_0:True) (h8_0:a8.length<=maxLen) (h8_1:∀y∈a8,Mw y) (h9_0:a9.length<=maxLen) (h9_1:∀y∈a9,Mw y):Mw (.mk a0 a1 a2 a3 a4 a5 a6 a7 a8 a9)
mutual
def I1:Ae->Nat
 | .mk a0 a1 a2 a3 a4 a5 a6 a7 a8 a9=>(1+((a1.size+1)+((a2.size+1)+(Bx a3+(Bx a4+((Iy Bx a5+1)+(U1 a6+(1+((Nk a8+1)+((Nk a9+1)))))))))))+1
def Nk:List Ae->Nat
 | []=>0
 |x::k=>I1 x+Nk k
end
theorem Aoq(l:List Ae):Nk l=Iy I1 l:=by
 induction l with
 |nil=>rw[Nk];rfl
 |cons x k ih=>rw[Nk,ih];rfl
theorem Aq1(x:Ae):I1 x=(1+((x.aD.size+1)+((x.Of.size+1)+(Bx x.E+(Bx x.F+((Iy Bx x.bM+1)+(U1 x.bW+(1+((Iy I1 x.cK+1)+((Iy I1 x.dM+1)))))))))))+1:=by
 cases x with|mk a0 a1 a2 a3 a4 a5 a6 a7 a8 a9=>simp only[I1,Aoq,Ae.Op,Ae.aD,Ae.Of,Ae.E,Ae.F,Ae.bM,Ae.bW,Ae.cZ,Ae.cK,Ae.dM]
def Xa(x:Am):Prop:=okS x.aD/\(x.aK.length<=maxLen/\∀y∈x.aK,Ri y)/\(x.aP.length<=maxLen/\∀y∈x.aP,Ri y)/\(x.cK.length<=maxLen/\∀y∈x.cK,Mw y)
def Mz(x:Am):Nat:=((x.aD.size+1)+((Iy Rq x.aK+1)+((Iy Rq x.aP+1)+((Iy I1 x.cK+1)))))+1
def Acv(x:Bq):Prop:=okS x.dW/\(x.bM.length<=maxLen/\∀y∈x.bM,okI .i64 y)/\okI .i64 x.At/\okI .i64 x.Every/\okI .i64 x.Until
def Ac4(x:Bq):Nat:=((x.dW.size+1)+((Iy (λ(z:Int)=>1) x.bM+1)+(1+(1+1))))+1
def Tc(x:Ak):Prop:=okS x.aD/\okI .i64 x.Room/\okI .i64 x.fE
def Kq(x:Ak):Nat:=((x.aD.size+1)+(1+1))+1
def Wn(x:Ag):Prop:=okS x.aD/\okI .i64 x.bL/\okI .i64 x.N
def Nl(x:Ag):Nat:=((x.aD.size+1)+(1+1))+1
def Lo(x:Ab):Prop:=okS x.aD/\(x.aX.length<=maxLen/\∀y∈x.aX,Wn y)/\(x.aI.length<=maxLen/\∀y∈x.aI,Oq y)/\(x.aJ.length<=maxLen/\∀y∈x.aJ,Tc y)/\(x.aZ.length<=maxLen/\∀y∈x.aZ,Vd y)/\(x.aV.length<=maxLen/\∀y∈x.aV,okS y)/\(x.aR.length<=maxLen/\∀y∈x.aR,okS y)/\(x.aS.length<=maxLen/\∀y∈x.aS,okS y)/\(x.aW.length<=maxLen/\∀y∈x.aW,okS y)/\(x.aT.length<=maxLen/\∀y∈x.aT,okS y)/\(x.aG.length<=maxLen/\∀y∈x.aG,Xa y)/\(x.bB.length<=maxLen/\∀y∈x.bB,Acv y)/\(x.Laws.length<=maxLen/\∀y∈x.Laws,Aia y)
def Ps(x:Ab):Nat:=((x.aD.size+1)+((Iy Nl x.aX+1)+((Iy Iq x.aI+1)+((Iy Kq x.aJ+1)+((Iy Lp x.aZ+1)+((Iy (λ(z:Yb)=>(z.size+1)) x.aV+1)+((Iy (λ(z:Yb)=>(z.size+1)) x.aR+1)+((Iy (λ(z:Yb)=>(z.size+1)) x.aS+1)+((Iy (λ(z:Yb)=>(z.size+1)) x.aW+1)+((Iy (λ(z:Yb)=>(z.size+1)) x.aT+1)+((Iy Mz x.aG+1)+((Iy Ac4 x.bB+1)+((Iy Aik x.Laws+1))))))))))))))+1
def La(x:Ao):Prop:=(x.aK.length<=maxLen/\∀y∈x.aK,Wn y)/\(x.aP.length<=maxLen/\∀y∈x.aP,Ri y)/\Lo x.aF
def Xg(x:Ao):Nat:=((Iy Nl x.aK+1)+((Iy Rq x.aP+1)+Ps x.aF))+1
theorem rt3:RTi Tryz.prog 3 .i64:=RT.int Tryz.underlying3
theorem rt4:RTb Tryz.prog 4:=RT.bool Tryz.underlying4
theorem rt9:RTt Tryz.prog 9:=RT.str Tryz.underlying9
theorem Bj2:RTi Tryz.prog 79 .i64:=RT.int Tryz.underlying79
theorem Bpb(N:Nat):RT Tryz.prog N 83 3 Bz Wn Nl:=RT.dn (RY.st Tryz.underlying83 ((rt9 N).a ((Bj2 N).a ((rt3 N).o))) (λ(a0,a1,a2)=>.mk a0 a1 a2) (λy=>(y.aD,y.bL,y.N)))
theorem Bo6:RTs Tryz.prog 22 LX.t83 Wn Nl:=λN=>RT.dn (RT.sl Tryz.underlying22 (Bpb N))
theorem Bfi(N:Nat):RT Tryz.prog N 266 2 Aj2 f0 g8:=RT.dn (RY.st Tryz.underlying266 ((rt3 N).a ((rt3 N).o)) (λ(a0,a1)=>.mk a0 a1) (λy=>(y.At,y.Units)))
theorem Bo3:RTs Tryz.prog 202 LX.dP f0 g8:=λN=>RT.dn (RT.sl Tryz.underlying202 (Bfi N))
theorem Bsn:RTi Tryz.prog 54 .i64:=RT.int Tryz.underlying54
theorem Bj0:RTs Tryz.prog 55 LX.t3 (okI .i64) (λ_=>1):=λN=>RT.dn (RT.sl Tryz.underlying55 (rt3 N))
theorem Bj1(N:Nat):RT Tryz.prog N 57 6 Aq8 Y4 U1:=RT.dn (RY.st Tryz.underlying57 ((Bsn N).a ((rt3 N).a ((rt3 N).a ((rt3 N).a ((Bj0 N).a ((Bj0 N).o)))))) (λ(a0,a1,a2,a3,a4,a5)=>.mk a0 a1 a2 a3 a4 a5) (λy=>(y.Op,y.A,y.B,y.N,y.bN,y.bI)))
theorem Bo4(N:Nat):RT Tryz.prog N 204 13 Anz Ajl Ajw:=RT.dn (RY.st Tryz.underlying204 ((rt9 N).a ((Bj1 N).a ((Bj1 N).o))) (λ(a0,a1,a2)=>.mk a0 a1 a2) (λy=>(y.dO,y.Up,y.Down)))
theorem Bfe(N:Nat):RT Tryz.prog N 206 17 Bt Oq Iq:=RT.dn (RY.st Tryz.underlying206 ((rt9 N).a ((rt3 N).a ((Bo3 N).a ((rt3 N).a ((Bo4 N).o))))) (λ(a0,a1,a2,a3,a4)=>.mk a0 a1 a2 a3 a4) (λy=>(y.aD,y.Units,y.cO,y.fJ,y.dA)))
theorem Bse:RTs Tryz.prog 28 LX.t206 Oq Iq:=λN=>RT.dn (RT.sl Tryz.underlying28 (Bfe N))
theorem Bo5:RTi Tryz.prog 211 .i64:=RT.int Tryz.underlying211
theorem Bff(N:Nat):RT Tryz.prog N 213 3 Cc Tc Kq:=RT.dn (RY.st Tryz.underlying213 ((rt9 N).a ((rt3 N).a ((Bo5 N).o))) (λ(a0,a1,a2)=>.mk a0 a1 a2) (λy=>(y.aD,y.Room,y.fE)))
theorem Bsf:RTs Tryz.prog 29 LX.t213 Tc Kq:=λN=>RT.dn (RT.sl Tryz.underlying29 (Bff N))
theorem Bfg(N:Nat):RT Tryz.prog N 217 3 Cj Vd Lp:=RT.dn (RY.st Tryz.underlying217 ((rt9 N).a ((rt3 N).a ((rt3 N).o))) (λ(a0,a1,a2)=>.mk a0 a1 a2) (λy=>(y.aD,y.Length,y.Step)))
theorem Bsg:RTs Tryz.prog 30 LX.bR Vd Lp:=λN=>RT.dn (RT.sl Tryz.underlying30 (Bfg N))
theorem A4y:RTs Tryz.prog 31 LX.t9 okS (λx=>x.size+1):=λN=>RT.dn (RT.sl Tryz.underlying31 (rt9 N))
theorem Bpa(N:Nat):RT Tryz.prog N 81 2 M3 Ri Rq:=RT.dn (RY.st Tryz.underlying81 ((rt9 N).a ((Bj2 N).o)) (λ(a0,a1)=>.mk a0 a1) (λy=>(y.aD,y.bL)))
theorem Bdo:RTs Tryz.prog 44 LX.dG Ri Rq:=λN=>RT.dn (RT.sl Tryz.underlying44 (Bpa N))
theorem Bsp:RTi Tryz.prog 97 .i64:=RT.int Tryz.underlying97
theorem Bsl:RTi Tryz.prog 50 .i64:=RT.int Tryz.underlying50
theorem Boy:∀N,RT Tryz.prog N 53 4 Bm Bw Bx
 |0=>.zero
 |N+1=>have ih:=Boy N;RY.st Tryz.underlying53 ((Bsl N).a ((rt9 N).a ((rt3 N).a ((RT.sl (K:=LX.t53) Tryz.underlying51 ih).dn.o)))) (λ(a0,a1,a2,a3)=>.mk a0 a1 a2 a3) (λy=>(y.Op,y.aD,y.N,y.aQ)) (hok:=λy h=>by cases y;obtain⟨h0,h1,h2,⟨h3,k3⟩⟩:=h;exact .mk _ _ _ _ h0 h1 h2 h3 k3) (hbk:=Aq0)
theorem A7u(N:Nat):RT Tryz.prog N 53 4 Bm Bw Bx:=Boy N
theorem Bsm:RTs Tryz.prog 51 LX.t53 Bw Bx:=λN=>RT.dn (RT.sl Tryz.underlying51 (A7u N))
theorem Boz:∀N,RT Tryz.prog N 99 21 Ea Mw I1
 |0=>.zero
 |N+1=>have ih:=Boz N;RY.st Tryz.underlying99 ((Bsp N).a ((rt9 N).a ((rt9 N).a ((A7u N).a ((A7u N).a ((Bsm N).a ((Bj1 N).a ((rt4 N).a ((RT.sl (K:=LX.eU) Tryz.underlying45 ih).dn.a ((RT.sl (K:=LX.eU) Tryz.underlying45 ih).dn.o)))))))))) (λ(a0,a1,a2,a3,a4,a5,a6,a7,a8,a9)=>.mk a0 a1 a2 a3 a4 a5 a6 a7 a8 a9) (λy=>(y.Op,y.aD,y.Of,y.E,y.F,y.bM,y.bW,y.cZ,y.cK,y.dM)) (hok:=λy h=>by cases y;obtain⟨h0,h1,h2,h3,h4,⟨h5,k5⟩,h6,h7,⟨h8,k8⟩,⟨h9,k9⟩⟩:=h;exact .mk _ _ _ _ _ _ _ _ _ _ h0 h1 h2 h3 h4 h5 k5 h6 h7 h8 k8 h9 k9) (hbk:=Aq1)
theorem Bpc(N:Nat):RT Tryz.prog N 99 21 Ea Mw I1:=Boz N
theorem Bsk:RTs Tryz.prog 45 LX.eU Mw I1:=λN=>RT.dn (RT.sl Tryz.underlying45 (Bpc N))
theorem Bo9(N:Nat):RT Tryz.prog N 47 4 B7 Xa Mz:=RT.dn (RY.st Tryz.underlying47 ((rt9 N).a ((Bdo N).a ((Bdo N).a ((Bsk N).o)))) (λ(a0,a1,a2,a3)=>.mk a0 a1 a2 a3) (λy=>(y.aD,y.aK,y.aP,y.cK)))
theorem Bsh:RTs Tryz.prog 32 LX.t47 Xa Mz:=λN=>RT.dn (RT.sl Tryz.underlying32 (Bo9 N))
theorem Bfh(N:Nat):RT Tryz.prog N 223 5 Af7 Acv Ac4:=RT.dn (RY.st Tryz.underlying223 ((rt9 N).a ((Bj0 N).a ((rt3 N).a ((rt3 N).a ((rt3 N).o))))) (λ(a0,a1,a2,a3,a4)=>.mk a0 a1 a2 a3 a4) (λy=>(y.dW,y.bM,y.At,y.Every,y.Until)))
theorem Bsi:RTs Tryz.prog 33 LX.bU Acv Ac4:=λN=>RT.dn (RT.sl Tryz.underlying33 (Bfh N))
theorem Bfk(N:Nat):RT Tryz.prog N 275 3 Cy Afh Af0:=RT.dn (RY.st Tryz.underlying275 ((rt3 N).a ((rt9 N).a ((rt9 N).o))) (λ(a0,a1,a2)=>.mk a0 a1 a2) (λy=>(y.bP,y.bF,y.aD)))
theorem Bo7:RTs Tryz.prog 270 LX.dK Afh Af0:=λN=>RT.dn (RT.sl Tryz.underlying270 (Bfk N))
theorem Bfj(N:Nat):RT Tryz.prog N 272 3 Db Aia Aik:=RT.dn (RY.st Tryz.underlying272 ((rt9 N).a ((Bo7 N).a ((rt3 N).o))) (λ(a0,a1,a2)=>.mk a0 a1 a2) (λy=>(y.aD,y.eX,y.Total)))
theorem Bsj:RTs Tryz.prog 34 LX.bT Aia Aik:=λN=>RT.dn (RT.sl Tryz.underlying34 (Bfj N))
theorem Bo8(N:Nat):RT Tryz.prog N 36 13 Af Lo Ps:=RT.dn (RY.st Tryz.underlying36 ((rt9 N).a ((Bo6 N).a ((Bse N).a ((Bsf N).a ((Bsg N).a ((A4y N).a ((A4y N).a ((A4y N).a ((A4y N).a ((A4y N).a ((Bsh N).a ((Bsi N).a ((Bsj N).o))))))))))))) (λ(a0,a1,a2,a3,a4,a5,a6,a7,a8,a9,a10,a11,a12)=>.mk a0 a1 a2 a3 a4 a5 a6 a7 a8 a9 a10 a11 a12) (λy=>(y.aD,y.aX,y.aI,y.aJ,y.aZ,y.aV,y.aR,y.aS,y.aW,y.aT,y.aG,y.bB,y.Laws)))
theorem Bso(N:Nat):RT Tryz.prog N 69 15 Nq La Xg:=RT.dn (RY.st Tryz.underlying69 ((Bo6 N).a ((Bdo N).a ((Bo8 N).o))) (λ(a0,a1,a2)=>.mk a0 a1 a2) (λy=>(y.aK,y.aP,y.aF)))
def rdL:List Nat:= [3,4,9,22,28,29,30,31,32,33,34,36,44,45,47,50,51,53,54,55,57,68,69,79,81,83,97,99,202,204,206,211,213,217,223,266,270,272,275]
theorem Br8:Aqp Tryz.prog rdL:=by
 intro e n m f he hs hf;simp only[rdL,List.mem_cons,List.not_mem_nil,or_false]at he;rcases he with rfl|rfl|rfl|rfl|rfl|rfl|rfl|rfl|rfl|rfl|rfl|rfl|rfl|rfl|rfl|rfl|rfl|rfl|rfl|rfl|rfl|rfl|rfl|rfl|rfl|rfl|rfl|rfl|rfl|rfl|rfl|rfl|rfl|rfl|rfl|rfl|rfl|rfl|rfl
 ·exact RT.rows (K:=LX.t3) rt3 (hf:=hf)
 ·exact RT.rows (K:=LX.t4) rt4 (hf:=hf)
 ·exact RT.rows (K:=LX.t9) rt9 (hf:=hf)
 ·exact nomatch hs
 ·exact nomatch hs
 ·exact nomatch hs
 ·exact nomatch hs
 ·exact RT.rows (K:=LX.t31) A4y (hf:=hf)
 ·exact nomatch hs
 ·exact nomatch hs
 ·exact nomatch hs
 ·exact RT.rows (K:=LX.t36) Bo8 (hf:=hf)
 ·exact RT.rows (K:=LX.t44) Bdo (hf:=hf)
 ·exact nomatch hs
 ·exact RT.rows (K:=LX.t47) Bo9 (hf:=hf)
 ·exact nomatch hs
 ·exact nomatch hs
 ·exact RT.rows (K:=LX.t53) A7u (hf:=hf)
 ·exact nomatch hs
 ·exact nomatch hs
 ·exact nomatch hs
 ·exact nomatch hs
 ·exact nomatch hs
 ·exact RT.rows (K:=LX.t79) Bj2 (hf:=hf)
 ·exact RT.rows (K:=LX.dG) Bpa (hf:=hf)
 ·exact RT.rows (K:=LX.t83) Bpb (hf:=hf)
 ·exact nomatch hs
 ·exact RT.rows (K:=LX.eU) Bpc (hf:=hf)
 ·exact nomatch hs
 ·exact nomatch hs
 ·exact RT.rows (K:=LX.t206) Bfe (hf:=hf)
 ·exact nomatch hs
 ·exact RT.rows (K:=LX.t213) Bff (hf:=hf)
 ·exact RT.rows (K:=LX.bR) Bfg (hf:=hf)
 ·exact RT.rows (K:=LX.bU) Bfh (hf:=hf)
 ·exact RT.rows (K:=LX.dP) Bfi (hf:=hf)
 ·exact nomatch hs
 ·exact RT.rows (K:=LX.bT) Bfj (hf:=hf)
 ·exact RT.rows (K:=LX.dK) Bfk (hf:=hf)
theorem Br9:Ay6 Tryz.prog rdL=true:=by kernel_rfl
end Go.Proofs.YtgacplpjamkieaaGreat.Ev
