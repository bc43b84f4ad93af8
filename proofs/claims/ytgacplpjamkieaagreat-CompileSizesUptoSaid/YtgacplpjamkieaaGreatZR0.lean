/-  bN is read, and its bulk. -/
import Derived.Test.YtgacplpjamkieaaGreatZG0
import Derived.Test.YtgacplpjamkieaaGreatZFz
set_option maxRecDepth 100000
set_option maxHeartbeats 4000000
set_option linter.unusedVariables false
set_option linter.unusedSimpArgs false
set_option linter.unnecessarySimpa false
namespace Go.Proofs.YtgacplpjamkieaaGreat.Ev
open Go An
def Ar8(x:Ac6):Prop:=okI .u8 x.a0/\okI .u8 x.a1
def Akc(x:Ac6):Nat:=(1+1)+1
inductive Co:Aa->Prop
 |mk (a0:Int) (a1:Yb) (a2:Int) (a3:(List Aa)) (h0_0:okI .i64 a0) (h1_0:okS a1) (h2_0:okI .i64 a2) (h3_0:a3.length<=maxLen) (h3_1:∀y∈a3,Co y):Co (.mk a0 a1 a2 a3)
mutual
def Bq:Aa->Nat
 | .mk a0 a1 a2 a3=>(1+((a1.size+1)+(1+((Dr a3+1)))))+1
def Dr:List Aa->Nat
 | []=>0
 |x::k=>Bq x+Dr k
end
theorem As8(l:List Aa):Dr l=Ic Bq l:=by
 induction l with
 |nil=>rw[Dr];rfl
 |cons x k ih=>rw[Dr,ih];rfl
theorem Aun(x:Aa):Bq x=(1+((x.aG.size+1)+(1+((Ic Bq x.bJ+1)))))+1:=by
 cases x with|mk a0 a1 a2 a3=>simp only[Bq,As8,Aa.Op,Aa.aG,Aa.N,Aa.bJ]
def Sj(x:Ar):Prop:=okS x.aG/\okI .i64 x.Length/\okI .i64 x.Step
def Sl(x:Ar):Nat:=((x.aG.size+1)+(1+1))+1
def Ae7(x:Gy):Prop:=okI .i64 x.At/\okI .i64 x.Units
def Afe(x:Gy):Nat:=(1+1)+1
def Aas(x:Aj):Prop:=okI .i64 x.Op/\okI .i64 x.A/\okI .i64 x.B/\okI .i64 x.N/\(x.bD.length<=maxLen/\∀y∈x.bD,okI .i64 y)/\(x.bB.length<=maxLen/\∀y∈x.bB,okI .i64 y)
def Nn(x:Aj):Nat:=(1+(1+(1+(1+((Ic (λ(z:Int)=>1) x.bD+1)+((Ic (λ(z:Int)=>1) x.bB+1)))))))+1
def I8(x:Ap):Prop:=okS x.aG/\okI .i64 x.bL
def Ph(x:Ap):Nat:=((x.aG.size+1)+1)+1
def Ajy(x:Ck):Prop:=okI .i64 x.bW/\okS x.bN/\okS x.aG
def Ake(x:Ck):Nat:=(1+((x.bN.size+1)+((x.aG.size+1))))+1
def Adb(x:Bg):Prop:=okS x.aG/\(x.bX.length<=maxLen/\∀y∈x.bX,Ajy y)/\okI .i64 x.Total
def Amr(x:Bg):Nat:=((x.aG.size+1)+((Ic Ake x.bX+1)+1))+1
def Anu(x:Qr):Prop:=okS x.dK/\Aas x.Up/\Aas x.Down
def Um(x:Qr):Nat:=((x.dK.size+1)+(Nn x.Up+Nn x.Down))+1
def Qe(x:Ah):Prop:=okS x.aG/\okI .i64 x.Units/\(x.bP.length<=maxLen/\∀y∈x.bP,Ae7 y)/\okI .i64 x.dM/\Anu x.dG
def Gf(x:Ah):Nat:=((x.aG.size+1)+(1+((Ic Afe x.bP+1)+(1+Um x.dG))))+1
inductive B3:Ad->Prop
 |mk (a0:Int) (a1:Yb) (a2:Yb) (a3:Aa) (a4:Aa) (a5:(List Aa)) (a6:Aj) (a7:Bool) (a8:(List Ad)) (a9:(List Ad)) (h0_0:okI .i64 a0) (h1_0:okS a1) (h2_0:okS a2) (h3_0:Co a3) (h4_0:Co a4) (h5_0:a5.length<=maxLen) (h5_1:∀y∈a5,Co y) (h6_0:Aas a6) (h7_0:True) (h8_0:a8.length<=maxLen) (h8_1:∀y∈a8,B3 y) (h9_0:a9.length<=maxLen) (h9_1:∀y∈a9,B3 y):B3 (.mk a0 a1 a2 a3 a4 a5 a6 a7 a8 a9)
mutual
def F0:Ad->Nat
 | .mk a0 a1 a2 a3 a4 a5 a6 a7 a8 a9=>(1+((a1.size+1)+((a2.size+1)+(Bq a3+(Bq a4+((Ic Bq a5+1)+(Nn a6+(1+((Cv a8+1)+((Cv a9+1)))))))))))+1
def Cv:List Ad->Nat
 | []=>0
 |x::k=>F0 x+Cv k
end
theorem Oh(l:List Ad):Cv l=Ic F0 l:=by
 induction l with
 |nil=>rw[Cv];rfl
 |cons x k ih=>rw[Cv,ih];rfl
theorem Akd(x:Ad):F0 x=(1+((x.aG.size+1)+((x.Of.size+1)+(Bq x.E+(Bq x.F+((Ic Bq x.aS+1)+(Nn x.bR+(1+((Ic F0 x.aK+1)+((Ic F0 x.aY+1)))))))))))+1:=by
 cases x with|mk a0 a1 a2 a3 a4 a5 a6 a7 a8 a9=>simp only[F0,Oh,Ad.Op,Ad.aG,Ad.Of,Ad.E,Ad.F,Ad.aS,Ad.bR,Ad.bZ,Ad.aK,Ad.aY]
def H7(x:Al):Prop:=okS x.aG/\(x.aJ.length<=maxLen/\∀y∈x.aJ,I8 y)/\(x.aL.length<=maxLen/\∀y∈x.aL,I8 y)/\(x.aK.length<=maxLen/\∀y∈x.aK,B3 y)
def Dw(x:Al):Nat:=((x.aG.size+1)+((Ic Ph x.aJ+1)+((Ic Ph x.aL+1)+((Ic F0 x.aK+1)))))+1
def Ack(x:Bt):Prop:=okS x.dN/\(x.aS.length<=maxLen/\∀y∈x.aS,okI .i64 y)/\okI .i64 x.At/\okI .i64 x.Every/\okI .i64 x.Until
def Ah6(x:Bt):Nat:=((x.dN.size+1)+((Ic (λ(z:Int)=>1) x.aS+1)+(1+(1+1))))+1
def Qp(x:Ao):Prop:=okS x.aG/\okI .i64 x.Room/\okI .i64 x.dD
def Qs(x:Ao):Nat:=((x.aG.size+1)+(1+1))+1
def O3(x:Ai):Prop:=okS x.aG/\okI .i64 x.bL/\okI .i64 x.N
def R2(x:Ai):Nat:=((x.aG.size+1)+(1+1))+1
def Cr(x:Ac):Prop:=okS x.aG/\(x.bG.length<=maxLen/\∀y∈x.bG,O3 y)/\(x.aM.length<=maxLen/\∀y∈x.aM,Qe y)/\(x.aO.length<=maxLen/\∀y∈x.aO,Qp y)/\(x.bH.length<=maxLen/\∀y∈x.bH,Sj y)/\(x.aX.length<=maxLen/\∀y∈x.aX,okS y)/\(x.aR.length<=maxLen/\∀y∈x.aR,okS y)/\(x.aT.length<=maxLen/\∀y∈x.aT,okS y)/\(x.bA.length<=maxLen/\∀y∈x.bA,okS y)/\(x.aU.length<=maxLen/\∀y∈x.aU,okS y)/\(x.aA.length<=maxLen/\∀y∈x.aA,H7 y)/\(x.aZ.length<=maxLen/\∀y∈x.aZ,Ack y)/\(x.Laws.length<=maxLen/\∀y∈x.Laws,Adb y)
def Ek(x:Ac):Nat:=((x.aG.size+1)+((Ic R2 x.bG+1)+((Ic Gf x.aM+1)+((Ic Qs x.aO+1)+((Ic Sl x.bH+1)+((Ic (λ(z:Yb)=>(z.size+1)) x.aX+1)+((Ic (λ(z:Yb)=>(z.size+1)) x.aR+1)+((Ic (λ(z:Yb)=>(z.size+1)) x.aT+1)+((Ic (λ(z:Yb)=>(z.size+1)) x.bA+1)+((Ic (λ(z:Yb)=>(z.size+1)) x.aU+1)+((Ic Dw x.aA+1)+((Ic Ah6 x.aZ+1)+((Ic Amr x.Laws+1))))))))))))))+1
def Ki(x:Az):Prop:=(x.aJ.length<=maxLen/\∀y∈x.aJ,O3 y)/\(x.aL.length<=maxLen/\∀y∈x.aL,I8 y)/\Cr x.aI
def Ajx(x:Bf):Prop:=okS x.dA/\okS x.To/\okI .i64 x.fA
def Aaw(x:Bf):Nat:=((x.dA.size+1)+((x.To.size+1)+1))+1
def Uk(x:Ag):Prop:=okS x.aG/\(x.aJ.length<=maxLen/\∀y∈x.aJ,O3 y)/\(x.aD.length<=maxLen/\∀y∈x.aD,Cr y)/\(x.bC.length<=maxLen/\∀y∈x.bC,Ajx y)
def Hi(x:Ag):Nat:=((x.aG.size+1)+((Ic R2 x.aJ+1)+((Ic Ek x.aD+1)+((Ic Aaw x.bC+1)))))+1
theorem rt3:RTi Tryz.prog 3 .i64:=RT.int Tryz.underlying3
theorem rt4:RTb Tryz.prog 4:=RT.bool Tryz.underlying4
theorem rt5:RTi Tryz.prog 5 .u8:=RT.int Tryz.underlying5
theorem rt9:RTt Tryz.prog 9:=RT.str Tryz.underlying9
theorem Boj:RTi Tryz.prog 79 .i64:=RT.int Tryz.underlying79
theorem Bt1(N:Nat):RT Tryz.prog N 83 3 Cw O3 R2:=RT.dn (RY.st Tryz.underlying83 ((rt9 N).a ((Boj N).a ((rt3 N).o))) (λ(a0,a1,a2)=>.mk a0 a1 a2) (λy=>(y.aG,y.bL,y.N)))
theorem Btv:RTs Tryz.prog 22 LX.t83 O3 R2:=λN=>RT.dn (RT.sl Tryz.underlying22 (Bt1 N))
theorem Bjr(N:Nat):RT Tryz.prog N 266 2 Aoe Ae7 Afe:=RT.dn (RY.st Tryz.underlying266 ((rt3 N).a ((rt3 N).o)) (λ(a0,a1)=>.mk a0 a1) (λy=>(y.At,y.Units)))
theorem Bts:RTs Tryz.prog 202 LX.eB Ae7 Afe:=λN=>RT.dn (RT.sl Tryz.underlying202 (Bjr N))
theorem Bw8:RTi Tryz.prog 54 .i64:=RT.int Tryz.underlying54
theorem Boh:RTs Tryz.prog 55 LX.t3 (okI .i64) (λ_=>1):=λN=>RT.dn (RT.sl Tryz.underlying55 (rt3 N))
theorem Boi(N:Nat):RT Tryz.prog N 57 6 Aux Aas Nn:=RT.dn (RY.st Tryz.underlying57 ((Bw8 N).a ((rt3 N).a ((rt3 N).a ((rt3 N).a ((Boh N).a ((Boh N).o)))))) (λ(a0,a1,a2,a3,a4,a5)=>.mk a0 a1 a2 a3 a4 a5) (λy=>(y.Op,y.A,y.B,y.N,y.bD,y.bB)))
theorem Btt(N:Nat):RT Tryz.prog N 204 13 Asj Anu Um:=RT.dn (RY.st Tryz.underlying204 ((rt9 N).a ((Boi N).a ((Boi N).o))) (λ(a0,a1,a2)=>.mk a0 a1 a2) (λy=>(y.dK,y.Up,y.Down)))
theorem Bjn(N:Nat):RT Tryz.prog N 206 17 Cq Qe Gf:=RT.dn (RY.st Tryz.underlying206 ((rt9 N).a ((rt3 N).a ((Bts N).a ((rt3 N).a ((Btt N).o))))) (λ(a0,a1,a2,a3,a4)=>.mk a0 a1 a2 a3 a4) (λy=>(y.aG,y.Units,y.bP,y.dM,y.dG)))
theorem Bwz:RTs Tryz.prog 28 LX.t206 Qe Gf:=λN=>RT.dn (RT.sl Tryz.underlying28 (Bjn N))
theorem Btu:RTi Tryz.prog 211 .i64:=RT.int Tryz.underlying211
theorem Bjo(N:Nat):RT Tryz.prog N 213 3 De Qp Qs:=RT.dn (RY.st Tryz.underlying213 ((rt9 N).a ((rt3 N).a ((Btu N).o))) (λ(a0,a1,a2)=>.mk a0 a1 a2) (λy=>(y.aG,y.Room,y.dD)))
theorem Bw0:RTs Tryz.prog 29 LX.t213 Qp Qs:=λN=>RT.dn (RT.sl Tryz.underlying29 (Bjo N))
theorem Bjp(N:Nat):RT Tryz.prog N 217 3 Dn Sj Sl:=RT.dn (RY.st Tryz.underlying217 ((rt9 N).a ((rt3 N).a ((rt3 N).o))) (λ(a0,a1,a2)=>.mk a0 a1 a2) (λy=>(y.aG,y.Length,y.Step)))
theorem Bw1:RTs Tryz.prog 30 LX.bY Sj Sl:=λN=>RT.dn (RT.sl Tryz.underlying30 (Bjp N))
theorem A89:RTs Tryz.prog 31 LX.t9 okS (λx=>x.size+1):=λN=>RT.dn (RT.sl Tryz.underlying31 (rt9 N))
theorem Bt0(N:Nat):RT Tryz.prog N 81 2 T6 I8 Ph:=RT.dn (RY.st Tryz.underlying81 ((rt9 N).a ((Boj N).o)) (λ(a0,a1)=>.mk a0 a1) (λy=>(y.aG,y.bL)))
theorem Bog:RTs Tryz.prog 44 LX.dW I8 Ph:=λN=>RT.dn (RT.sl Tryz.underlying44 (Bt0 N))
theorem Bxa:RTi Tryz.prog 97 .i64:=RT.int Tryz.underlying97
theorem Bw6:RTi Tryz.prog 50 .i64:=RT.int Tryz.underlying50
theorem Bto:∀N,RT Tryz.prog N 53 4 Hv Co Bq
 |0=>.zero
 |N+1=>have ih:=Bto N;RY.st Tryz.underlying53 ((Bw6 N).a ((rt9 N).a ((rt3 N).a ((RT.sl (K:=LX.t53) Tryz.underlying51 ih).dn.o)))) (λ(a0,a1,a2,a3)=>.mk a0 a1 a2 a3) (λy=>(y.Op,y.aG,y.N,y.bJ)) (hok:=λy h=>by cases y;obtain⟨h0,h1,h2,⟨h3,k3⟩⟩:=h;exact .mk _ _ _ _ h0 h1 h2 h3 k3) (hbk:=Aun)
theorem Bhs(N:Nat):RT Tryz.prog N 53 4 Hv Co Bq:=Bto N
theorem Bw7:RTs Tryz.prog 51 LX.t53 Co Bq:=λN=>RT.dn (RT.sl Tryz.underlying51 (Bhs N))
theorem Btp:∀N,RT Tryz.prog N 99 21 Gz B3 F0
 |0=>.zero
 |N+1=>have ih:=Btp N;RY.st Tryz.underlying99 ((Bxa N).a ((rt9 N).a ((rt9 N).a ((Bhs N).a ((Bhs N).a ((Bw7 N).a ((Boi N).a ((rt4 N).a ((RT.sl (K:=LX.eZ) Tryz.underlying45 ih).dn.a ((RT.sl (K:=LX.eZ) Tryz.underlying45 ih).dn.o)))))))))) (λ(a0,a1,a2,a3,a4,a5,a6,a7,a8,a9)=>.mk a0 a1 a2 a3 a4 a5 a6 a7 a8 a9) (λy=>(y.Op,y.aG,y.Of,y.E,y.F,y.aS,y.bR,y.bZ,y.aK,y.aY)) (hok:=λy h=>by cases y;obtain⟨h0,h1,h2,h3,h4,⟨h5,k5⟩,h6,h7,⟨h8,k8⟩,⟨h9,k9⟩⟩:=h;exact .mk _ _ _ _ _ _ _ _ _ _ h0 h1 h2 h3 h4 h5 k5 h6 h7 h8 k8 h9 k9) (hbk:=Akd)
theorem Bt2(N:Nat):RT Tryz.prog N 99 21 Gz B3 F0:=Btp N
theorem Bw5:RTs Tryz.prog 45 LX.eZ B3 F0:=λN=>RT.dn (RT.sl Tryz.underlying45 (Bt2 N))
theorem Btz(N:Nat):RT Tryz.prog N 47 4 C6 H7 Dw:=RT.dn (RY.st Tryz.underlying47 ((rt9 N).a ((Bog N).a ((Bog N).a ((Bw5 N).o)))) (λ(a0,a1,a2,a3)=>.mk a0 a1 a2 a3) (λy=>(y.aG,y.aJ,y.aL,y.aK)))
theorem Bw2:RTs Tryz.prog 32 LX.t47 H7 Dw:=λN=>RT.dn (RT.sl Tryz.underlying32 (Btz N))
theorem Bjq(N:Nat):RT Tryz.prog N 223 5 Akj Ack Ah6:=RT.dn (RY.st Tryz.underlying223 ((rt9 N).a ((Boh N).a ((rt3 N).a ((rt3 N).a ((rt3 N).o))))) (λ(a0,a1,a2,a3,a4)=>.mk a0 a1 a2 a3 a4) (λy=>(y.dN,y.aS,y.At,y.Every,y.Until)))
theorem Bw3:RTs Tryz.prog 33 LX.cZ Ack Ah6:=λN=>RT.dn (RT.sl Tryz.underlying33 (Bjq N))
theorem Bjt(N:Nat):RT Tryz.prog N 275 3 Dx Ajy Ake:=RT.dn (RY.st Tryz.underlying275 ((rt3 N).a ((rt9 N).a ((rt9 N).o))) (λ(a0,a1,a2)=>.mk a0 a1 a2) (λy=>(y.bW,y.bN,y.aG)))
theorem Btx:RTs Tryz.prog 270 LX.dX Ajy Ake:=λN=>RT.dn (RT.sl Tryz.underlying270 (Bjt N))
theorem Bjs(N:Nat):RT Tryz.prog N 272 3 Fs Adb Amr:=RT.dn (RY.st Tryz.underlying272 ((rt9 N).a ((Btx N).a ((rt3 N).o))) (λ(a0,a1,a2)=>.mk a0 a1 a2) (λy=>(y.aG,y.bX,y.Total)))
theorem Bw4:RTs Tryz.prog 34 LX.cO Adb Amr:=λN=>RT.dn (RT.sl Tryz.underlying34 (Bjs N))
theorem Bty(N:Nat):RT Tryz.prog N 36 13 Af Cr Ek:=RT.dn (RY.st Tryz.underlying36 ((rt9 N).a ((Btv N).a ((Bwz N).a ((Bw0 N).a ((Bw1 N).a ((A89 N).a ((A89 N).a ((A89 N).a ((A89 N).a ((A89 N).a ((Bw2 N).a ((Bw3 N).a ((Bw4 N).o))))))))))))) (λ(a0,a1,a2,a3,a4,a5,a6,a7,a8,a9,a10,a11,a12)=>.mk a0 a1 a2 a3 a4 a5 a6 a7 a8 a9 a10 a11 a12) (λy=>(y.aG,y.bG,y.aM,y.aO,y.bH,y.aX,y.aR,y.aT,y.bA,y.aU,y.aA,y.aZ,y.Laws)))
theorem Bwx:RTs Tryz.prog 23 LX.t36 Cr Ek:=λN=>RT.dn (RT.sl Tryz.underlying23 (Bty N))
theorem Bjm(N:Nat):RT Tryz.prog N 118 3 P2 Ajx Aaw:=RT.dn (RY.st Tryz.underlying118 ((rt9 N).a ((rt9 N).a ((rt3 N).o))) (λ(a0,a1,a2)=>.mk a0 a1 a2) (λy=>(y.dA,y.To,y.fA)))
theorem Bwy:RTs Tryz.prog 24 LX.dF Ajx Aaw:=λN=>RT.dn (RT.sl Tryz.underlying24 (Bjm N))
theorem Btw(N:Nat):RT Tryz.prog N 26 4 Br Uk Hi:=RT.dn (RY.st Tryz.underlying26 ((rt9 N).a ((Btv N).a ((Bwx N).a ((Bwy N).o)))) (λ(a0,a1,a2,a3)=>.mk a0 a1 a2 a3) (λy=>(y.aG,y.aJ,y.aD,y.bC)))
theorem Bw9(N:Nat):RT Tryz.prog N 61 2 Amu Ar8 Akc:=RT.dn (RY.ar Tryz.underlying61 ((rt5 N).a ((rt5 N).o)) (λ(a0,a1)=>.mk a0 a1) (λy=>(y.a0,y.a1)))
def rdL:List Nat:= [3,4,5,9,22,23,24,26,28,29,30,31,32,33,34,36,44,45,47,50,51,53,54,55,57,61,68,79,81,83,97,99,118,202,204,206,211,213,217,223,266,270,272,275]
theorem Btl:Auh Tryz.prog rdL:=by
 intro e n m f he hs hf;simp only[rdL,List.mem_cons,List.not_mem_nil,or_false]at he;rcases he with rfl|rfl|rfl|rfl|rfl|rfl|rfl|rfl|rfl|rfl|rfl|rfl|rfl|rfl|rfl|rfl|rfl|rfl|rfl|rfl|rfl|rfl|rfl|rfl|rfl|rfl|rfl|rfl|rfl|rfl|rfl|rfl|rfl|rfl|rfl|rfl|rfl|rfl|rfl|rfl|rfl|rfl|rfl|rfl
 ·exact RT.rows (K:=LX.t3) rt3 (hf:=hf)
 ·exact RT.rows (K:=LX.t4) rt4 (hf:=hf)
 ·exact nomatch hs
 ·exact RT.rows (K:=LX.t9) rt9 (hf:=hf)
 ·exact nomatch hs
 ·exact nomatch hs
 ·exact nomatch hs
 ·exact nomatch hs
 ·exact nomatch hs
 ·exact nomatch hs
 ·exact nomatch hs
 ·exact RT.rows (K:=LX.t31) A89 (hf:=hf)
 ·exact nomatch hs
 ·exact nomatch hs
 ·exact nomatch hs
 ·exact RT.rows (K:=LX.t36) Bty (hf:=hf)
 ·exact RT.rows (K:=LX.t44) Bog (hf:=hf)
 ·exact nomatch hs
 ·exact RT.rows (K:=LX.t47) Btz (hf:=hf)
 ·exact nomatch hs
 ·exact nomatch hs
 ·exact RT.rows (K:=LX.t53) Bhs (hf:=hf)
 ·exact nomatch hs
 ·exact nomatch hs
 ·exact nomatch hs
 ·exact nomatch hs
 ·exact nomatch hs
 ·exact RT.rows (K:=LX.t79) Boj (hf:=hf)
 ·exact RT.rows (K:=LX.dW) Bt0 (hf:=hf)
 ·exact RT.rows (K:=LX.t83) Bt1 (hf:=hf)
 ·exact nomatch hs
 ·exact RT.rows (K:=LX.eZ) Bt2 (hf:=hf)
 ·exact RT.rows (K:=LX.dF) Bjm (hf:=hf)
 ·exact nomatch hs
 ·exact nomatch hs
 ·exact RT.rows (K:=LX.t206) Bjn (hf:=hf)
 ·exact nomatch hs
 ·exact RT.rows (K:=LX.t213) Bjo (hf:=hf)
 ·exact RT.rows (K:=LX.bY) Bjp (hf:=hf)
 ·exact RT.rows (K:=LX.cZ) Bjq (hf:=hf)
 ·exact RT.rows (K:=LX.eB) Bjr (hf:=hf)
 ·exact nomatch hs
 ·exact RT.rows (K:=LX.cO) Bjs (hf:=hf)
 ·exact RT.rows (K:=LX.dX) Bjt (hf:=hf)
theorem Btm:A3c Tryz.prog rdL=true:=by kernel_rfl
end Go.Proofs.YtgacplpjamkieaaGreat.Ev
