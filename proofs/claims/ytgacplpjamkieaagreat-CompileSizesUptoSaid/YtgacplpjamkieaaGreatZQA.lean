import Derived.Test.YtgacplpjamkieaaGreatZG1
import Derived.Test.YtgacplpjamkieaaGreatZFW
import Derived.Test.YtgacplpjamkieaaGreatZG2
import Derived.Test.YtgacplpjamkieaaGreatZG3
import Derived.Test.YtgacplpjamkieaaGreatZG4
import Derived.Test.YtgacplpjamkieaaGreatZG5
import Derived.Test.YtgacplpjamkieaaGreatZG6
import Derived.Test.YtgacplpjamkieaaGreatZG7
import Derived.Test.YtgacplpjamkieaaGreatZG8
import Derived.Test.YtgacplpjamkieaaGreatZG9
set_option maxRecDepth 100000
set_option maxHeartbeats 4000000
set_option linter.unusedVariables false
set_option linter.unusedSimpArgs false
set_option linter.unnecessarySimpa false
namespace Go.Proofs.YtgacplpjamkieaaGreat.Ev
open Go An
theorem aC:(∀i:Nat,(0<=(i:Int))=True)/\(∀i:Nat,Int.toNat (i:Int)=i)/\(∀ {α :Type} (a b: α),cond true a b=a)/\(∀ {α :Type} (a b: α),cond false a b=b)/\(∀ {α :Type} (a b: α),(if True then a else b)=a)/\(∀h:Decidable True,@decide True h=true)/\(∀x:Aa,Aa.mk x.Op x.aG x.N x.bJ=x)/\(∀x:Aa,Aa.cp x=x)/\(∀x:Ad,Ad.mk x.Op x.aG x.Of x.E x.F x.aS x.bR x.bZ x.aK x.aY=x)/\(∀x:Ad,Ad.cp x=x):=⟨nn,toN,λ_ _=>rfl,λ_ _=>rfl,λ_ _=>if_true ..,decide_true,Aa.eta,Aa.cp_eq,Ad.eta,Ad.cp_eq⟩
def Nh(L:Nat)(Aq:Int)(a0:Ag):List Al->Nat->Bool->Option (Nat×Bool×Int)
 | [],i,C3=>(some (1,(C3,(i:Int))))
 |x::k,i,C3=>(Option.bind (T2 L (x.aK) 60) λr10=>
 (bif (!r10) then(some (0,(false,(i:Int))))
 else(Nh L Aq a0 k (i+1) C3)))
theorem Ame(L:Nat)(Aq:Int)(a0:Ag)(n:Nat)(hl:((a0.aD.getD (Int.toNat Aq) default).aA).length<=maxLen)(hn:((a0.aD.getD (Int.toNat Aq) default).aA).length<n):∀(C3:Bool),Pw L Aq a0 n C3 0=Nh L Aq a0 ((a0.aD.getD (Int.toNat Aq) default).aA) 0 C3:=lQ (λk i n=>∀(C3:Bool),Pw L Aq a0 n C3 (i:Int)=Nh L Aq a0 k i C3) hl hn (λn i h C3=>by simp only[Pw,Acs,Nh,I5 h,aN,aB,aC]) (λn i x k h hx ih C3=>by simp only[Pw,Acs,Nh,I4 h,Ua h,hx,B2 h hl,ih,aN,aB,aC])
def Ng(L:Nat)(a0:Ag):List Ac->Nat->Bool->Option (Nat×Bool×Int)
 | [],i,Av=>(some (1,(Av,(i:Int))))
 |x::k,i,Av=>((λb3=>
 ((λb4=>
 ((λb5=>
 ((λb6=>
 ((λb7=>
 ((λb8=>
 ((λb9=>
 (bif b9 then(some (0,(false,(i:Int))))
 else(Option.bind (Pw L (i:Int) a0 L Av 0) λo11=>
 (Atz o11.1 [(some (0,(o11.2.1,(i:Int)))),(Ng L a0 k (i+1) o11.2.1)])))) (bif b8 then true
 else(decide ((x.aR.length:Int)>10))))) (bif b7 then true
 else(decide ((x.aX.length:Int)>10))))) (bif b6 then true
 else(decide ((x.Laws.length:Int)>10))))) (bif b5 then true
 else(decide ((x.aZ.length:Int)>10))))) (bif b4 then true
 else(decide ((x.aA.length:Int)>6))))) (bif b3 then true
 else(decide ((x.aO.length:Int)>10))))) (bif (decide ((x.bG.length:Int)>10))then true
 else(decide ((x.aM.length:Int)>10))))
theorem Amd(L:Nat)(a0:Ag)(n:Nat)(hl:a0.aD.length<=maxLen)(hn:a0.aD.length<n):∀(Av:Bool),R7 L a0 n Av 0=Ng L a0 a0.aD 0 Av:=lQ (λk i n=>∀(Av:Bool),R7 L a0 n Av (i:Int)=Ng L a0 k i Av) hl hn (λn i h Av=>by simp only[R7,Aii,Ac1,Acz,Ng,I5 h,aN,aB,aC]) (λn i x k h hx ih Av=>by simp only[R7,Aii,Ac1,Acz,Ng,I4 h,Ua h,hx,B2 h hl,ih,aN,aB,aC])
def D4(L:Nat)(a0:Ah):List Gy->Nat->Int->Option (Nat×Int×Int)
 | [],i,Av=>(some (1,(Av,(i:Int))))
 |x::k,i,Av=>(Option.bind (Bh L (x.At) 0 (Bb (a0.dM-1))) λr2=>
 (bif (!r2) then(bif (!r2) then(some (0,(2,(i:Int))))
 else(bif (decide ((i:Int)>0)) then(if(0<=(Bb ((i:Int)-1))) then(if((Bb ((i:Int)-1))<(a0.bP.length:Int)) then(bif (decide (x.At<=(a0.bP.getD (Int.toNat (Bb ((i:Int)-1))) default).At)) then(some (0,(12,(i:Int))))
 else(D4 L a0 k (i+1) Av))else none)else none)
 else(D4 L a0 k (i+1) Av)))
 else(Option.bind (Bh L (x.Units) 0 1000) λr3=>
 (bif (!r3) then(some (0,(2,(i:Int))))
 else(bif (decide ((i:Int)>0)) then(if(0<=(Bb ((i:Int)-1))) then(if((Bb ((i:Int)-1))<(a0.bP.length:Int)) then(bif (decide (x.At<=(a0.bP.getD (Int.toNat (Bb ((i:Int)-1))) default).At)) then(some (0,(12,(i:Int))))
 else(D4 L a0 k (i+1) Av))else none)else none)
 else(D4 L a0 k (i+1) Av))))))
theorem Aks(L:Nat)(a0:Ah)(n:Nat)(hl:a0.bP.length<=maxLen)(hn:a0.bP.length<n):∀(Av:Int),Hx L a0 n Av 0=D4 L a0 a0.bP 0 Av:=lQ (λk i n=>∀(Av:Int),Hx L a0 n Av (i:Int)=D4 L a0 k i Av) hl hn (λn i h Av=>by simp only[Hx,Qh,D4,I5 h,aN,aB,aC]) (λn i x k h hx ih Av=>by simp only[Hx,Qh,D4,I4 h,Ua h,hx,B2 h hl,ih,aN,aB,aC])
def Gk(L:Nat)(a0:List Int)(a1:List Int):List Int->Nat->Bool->Option (Nat×Bool×Int)
 | [],i,Bl=>(some (1,(Bl,(i:Int))))
 |x::k,i,Bl=>(if((i:Int)<(a1.length:Int)) then(bif (x != (a1.getD (Int.toNat (i:Int)) default)) then(some (0,(false,(i:Int))))
 else(Gk L a0 a1 k (i+1) Bl))else none)
theorem Aij(L:Nat)(a0:List Int)(a1:List Int)(n:Nat)(hl:a0.length<=maxLen)(hn:a0.length<n):∀(Bl:Bool),Gj L a0 a1 n Bl 0=Gk L a0 a1 a0 0 Bl:=lQ (λk i n=>∀(Bl:Bool),Gj L a0 a1 n Bl (i:Int)=Gk L a0 a1 k i Bl) hl hn (λn i h Bl=>by simp only[Gj,Ob,Gk,I5 h,aN,aB,aC]) (λn i x k h hx ih Bl=>by simp only[Gj,Ob,Gk,I4 h,Ua h,hx,B2 h hl,ih,aN,aB,aC])
def Ey(L:Nat)(a0:List Yb)(a1:Yb):List Yb->Nat->Int->Option (Nat×Int×Int)
 | [],i,Bl=>(some (1,(Bl,(i:Int))))
 |x::k,i,Bl=>(bif (a1.toList == x.toList) then(some (0,((i:Int),(i:Int))))
 else(Ey L a0 a1 k (i+1) Bl))
theorem Aec(L:Nat)(a0:List Yb)(a1:Yb)(n:Nat)(hl:a0.length<=maxLen)(hn:a0.length<n):∀(Bl:Int),Er L a0 a1 n Bl 0=Ey L a0 a1 a0 0 Bl:=lQ (λk i n=>∀(Bl:Int),Er L a0 a1 n Bl (i:Int)=Ey L a0 a1 k i Bl) hl hn (λn i h Bl=>by simp only[Er,Lf,Ey,I5 h,aN,aB,aC]) (λn i x k h hx ih Bl=>by simp only[Er,Lf,Ey,I4 h,Ua h,hx,B2 h hl,ih,aN,aB,aC])
def K2(L:Nat)(p1_0:List Int)(p1_1:Int)(p1_2:Int):List Int->Nat->Int->Option (Nat×Int×Int)
 | [],i,Aq=>(some (1,(Aq,(i:Int))))
 |x::k,i,Aq=>((λb1=>
 (bif b1 then(some (0,((i:Int),(i:Int))))
 else(K2 L p1_0 p1_1 p1_2 k (i+1) Aq))) (bif (decide (x<p1_1))then true
 else(decide (x>p1_2))))
theorem Aos(L:Nat)(p1_0:List Int)(p1_1:Int)(p1_2:Int)(n:Nat)(hl:p1_0.length<=maxLen)(hn:p1_0.length<n):∀(Aq:Int),Kn L p1_0 p1_1 p1_2 n Aq 0=K2 L p1_0 p1_1 p1_2 p1_0 0 Aq:=lQ (λk i n=>∀(Aq:Int),Kn L p1_0 p1_1 p1_2 n Aq (i:Int)=K2 L p1_0 p1_1 p1_2 k i Aq) hl hn (λn i h Aq=>by simp only[Kn,Ut,K2,I5 h,aN,aB,aC]) (λn i x k h hx ih Aq=>by simp only[Kn,Ut,K2,I4 h,Ua h,hx,B2 h hl,ih,aN,aB,aC])
def El(L:Nat)(a0:List (List Ap)):List ((List Ap))->Nat->Int->Option (Nat×Int×Int)
 | [],i,Bl=>(some (0,(Bl,(i:Int))))
 |x::k,i,Bl=>(bif (decide ((Bb (Bl+(x.length:Int)))<0))then none
 else(El L a0 k (i+1) (Bb (Bl+(x.length:Int)))))
theorem Aaz(L:Nat)(a0:List (List Ap))(n:Nat)(hl:a0.length<=maxLen)(hn:a0.length<n):∀(Bl:Int),Dl L a0 n Bl 0=El L a0 a0 0 Bl:=lQ (λk i n=>∀(Bl:Int),Dl L a0 n Bl (i:Int)=El L a0 k i Bl) hl hn (λn i h Bl=>by simp only[Dl,Ig,El,I5 h,aN,aB,aC]) (λn i x k h hx ih Bl=>by simp only[Dl,Ig,El,I4 h,Ua h,hx,B2 h hl,ih,aN,aB,aC])
def Em(L:Nat)(a0:List (List Ap)):List ((List Ap))->Nat->List Ap->Option (Nat×List Ap×Int)
 | [],i,I6=>(some (0,(I6,(i:Int))))
 |x::k,i,I6=>(if((I6.length+x.length)*24<=140737488355328) then(if(I6.length+x.length<=maxLen) then(Em L a0 k (i+1) (I6++x))else none)else none)
theorem Aa0(L:Nat)(a0:List (List Ap))(n:Nat)(hl:a0.length<=maxLen)(hn:a0.length<n):∀(I6:List Ap),Dm L a0 n I6 0=Em L a0 a0 0 I6:=lQ (λk i n=>∀(I6:List Ap),Dm L a0 n I6 (i:Int)=Em L a0 k i I6) hl hn (λn i h I6=>by simp only[Dm,Ih,Em,I5 h,aN,aB,aC]) (λn i x k h hx ih I6=>by simp only[Dm,Ih,Em,I4 h,Ua h,hx,B2 h hl,ih,aN,aB,aC])
def Jw(R8:(List Ad)->Option Int)(L:Nat)(a0:List Ad):List Ad->Nat->Int->Option (Nat×Int×Int)
 | [],i,Aq=>(some (0,(Aq,(i:Int))))
 |x::k,i,Aq=>(Option.bind (R8 (x.aK)) λr1=>
 (Option.bind (R8 (x.aY)) λr2=>
 (Jw R8 L a0 k (i+1) (Bb (Aq+(Bb (r1+r2)))))))
theorem Arb(R8:(List Ad)->Option Int)(L:Nat)(a0:List Ad)(n:Nat)(hl:a0.length<=maxLen)(hn:a0.length<n):∀(Aq:Int),Mr R8 L a0 n Aq 0=Jw R8 L a0 a0 0 Aq:=lQ (λk i n=>∀(Aq:Int),Mr R8 L a0 n Aq (i:Int)=Jw R8 L a0 k i Aq) hl hn (λn i h Aq=>by simp only[Mr,Wz,Jw,I5 h,aN,aB,aC]) (λn i x k h hx ih Aq=>by simp only[Mr,Wz,Jw,I4 h,Ua h,hx,B2 h hl,ih,aN,aB,aC])
def Jx(Jq:(List Ad)->Option Int)(L:Nat)(a0:List Ad):List Ad->Nat->Int->Option (Nat×Int×Int)
 | [],i,Aq=>(some (0,(Aq,(i:Int))))
 |x::k,i,Aq=>(Option.bind (Jq (x.aK)) λr1=>
 (Option.bind (Jq (x.aY)) λr2=>
 (Jx Jq L a0 k (i+1) (if(Bb (1+r2))>(if(Bb (1+r1))>Aq then(Bb (1+r1))else Aq) then(Bb (1+r2)) else(if(Bb (1+r1))>Aq then(Bb (1+r1))else Aq)))))
theorem Arc(Jq:(List Ad)->Option Int)(L:Nat)(a0:List Ad)(n:Nat)(hl:a0.length<=maxLen)(hn:a0.length<n):∀(Aq:Int),Ms Jq L a0 n Aq 0=Jx Jq L a0 a0 0 Aq:=lQ (λk i n=>∀(Aq:Int),Ms Jq L a0 n Aq (i:Int)=Jx Jq L a0 k i Aq) hl hn (λn i h Aq=>by simp only[Ms,W0,Jx,I5 h,aN,aB,aC]) (λn i x k h hx ih Aq=>by simp only[Ms,W0,Jx,I4 h,Ua h,hx,B2 h hl,ih,aN,aB,aC])
def Qw(Gn:Aa->Aa->Option Bool)(L:Nat)(a0:Aa)(a1:Aa):List Aa->Nat->Bool->Option (Nat×Bool×Int)
 | [],i,Av=>(some (1,(Av,(i:Int))))
 |x::k,i,Av=>(if((i:Int)<(a1.bJ.length:Int)) then(Option.bind (Gn x (a1.bJ.getD (Int.toNat (i:Int)) default)) λr4=>
 (bif (!r4) then(some (0,(false,(i:Int))))
 else(Qw Gn L a0 a1 k (i+1) Av)))else none)
theorem Ath(Gn:Aa->Aa->Option Bool)(L:Nat)(a0:Aa)(a1:Aa)(n:Nat)(hl:a0.bJ.length<=maxLen)(hn:a0.bJ.length<n):∀(Av:Bool),N7 Gn L a0 a1 n Av 0=Qw Gn L a0 a1 a0.bJ 0 Av:=lQ (λk i n=>∀(Av:Bool),N7 Gn L a0 a1 n Av (i:Int)=Qw Gn L a0 a1 k i Av) hl hn (λn i h Av=>by simp only[N7,Y0,Qw,I5 h,aN,aB,aC]) (λn i x k h hx ih Av=>by simp only[N7,Y0,Qw,I4 h,Ua h,hx,B2 h hl,ih,aN,aB,aC])
def My(L5:Aa->Option Int)(L:Nat)(a0:Aa):List Aa->Nat->Int->Option (Nat×Int×Int)
 | [],i,Aq=>(some (0,(Aq,(i:Int))))
 |x::k,i,Aq=>(Option.bind (L5 x) λr1=>
 (My L5 L a0 k (i+1) (Bb (Aq+r1))))
theorem Aqy(L5:Aa->Option Int)(L:Nat)(a0:Aa)(n:Nat)(hl:a0.bJ.length<=maxLen)(hn:a0.bJ.length<n):∀(Aq:Int),Me L5 L a0 n Aq 0=My L5 L a0 a0.bJ 0 Aq:=lQ (λk i n=>∀(Aq:Int),Me L5 L a0 n Aq (i:Int)=My L5 L a0 k i Aq) hl hn (λn i h Aq=>by simp only[Me,Wt,My,I5 h,aN,aB,aC]) (λn i x k h hx ih Aq=>by simp only[Me,Wt,My,I4 h,Ua h,hx,B2 h hl,ih,aN,aB,aC])
def Mx(L6:Aa->Option Int)(L:Nat)(a0:Aa):List Aa->Nat->Int->Option (Nat×Int×Int)
 | [],i,Aq=>(some (0,(Aq,(i:Int))))
 |x::k,i,Aq=>(Option.bind (L6 x) λr1=>
 (Mx L6 L a0 k (i+1) (if r1>Aq then r1 else Aq)))
theorem Aqx(L6:Aa->Option Int)(L:Nat)(a0:Aa)(n:Nat)(hl:a0.bJ.length<=maxLen)(hn:a0.bJ.length<n):∀(Aq:Int),Md L6 L a0 n Aq 0=Mx L6 L a0 a0.bJ 0 Aq:=lQ (λk i n=>∀(Aq:Int),Md L6 L a0 n Aq (i:Int)=Mx L6 L a0 k i Aq) hl hn (λn i h Aq=>by simp only[Md,Ws,Mx,I5 h,aN,aB,aC]) (λn i x k h hx ih Aq=>by simp only[Md,Ws,Mx,I4 h,Ua h,hx,B2 h hl,ih,aN,aB,aC])
def F9(Gm:Bu->Aa->Option Int)(L:Nat)(a1:Aa)(a0:Bu):List Aa->Nat->Int->Option (Nat×Int×Int)
 | [],i,Av=>(some (1,(Av,(i:Int))))
 |x::k,i,Av=>(Option.bind (Gm (⟨a0.bT⟩:Bu) x) λr2=>
 (bif (r2 != 0) then(some (0,(r2,(i:Int))))
 else(F9 Gm L a1 a0 k (i+1) Av)))
theorem Aji(Gm:Bu->Aa->Option Int)(L:Nat)(a1:Aa)(a0:Bu)(n:Nat)(hl:a1.bJ.length<=maxLen)(hn:a1.bJ.length<n):∀(Av:Int),Ha Gm L a1 a0 n Av 0=F9 Gm L a1 a0 a1.bJ 0 Av:=lQ (λk i n=>∀(Av:Int),Ha Gm L a1 a0 n Av (i:Int)=F9 Gm L a1 a0 k i Av) hl hn (λn i h Av=>by simp only[Ha,Pu,F9,I5 h,aN,aB,aC]) (λn i x k h hx ih Av=>by simp only[Ha,Pu,F9,I4 h,Ua h,hx,B2 h hl,ih,aN,aB,aC])
def Jy(L:Nat)(a0:Ad)(a1:B9):List Aa->Nat->Int->Option (Nat×Int×Int)
 | [],i,N0=>(some (1,(N0,(i:Int))))
 |x::k,i,N0=>(Option.bind (O0 L x) λr6=>
 (bif (r6 != 0) then(some (0,(r6,(i:Int))))
 else(Jy L a0 a1 k (i+1) N0)))
theorem Are(L:Nat)(a0:Ad)(a1:B9)(n:Nat)(hl:a0.aS.length<=maxLen)(hn:a0.aS.length<n):∀(N0:Int),Mw L a0 a1 n N0 0=Jy L a0 a1 a0.aS 0 N0:=lQ (λk i n=>∀(N0:Int),Mw L a0 a1 n N0 (i:Int)=Jy L a0 a1 k i N0) hl hn (λn i h N0=>by simp only[Mw,W2,Jy,I5 h,aN,aB,aC]) (λn i x k h hx ih N0=>by simp only[Mw,W2,Jy,I4 h,Ua h,hx,B2 h hl,ih,aN,aB,aC])
def M5(Jr:(List Ad)->Option Int)(L:Nat)(a0:List Ad):List Ad->Nat->Int->Option (Nat×Int×Int)
 | [],i,Av=>(some (1,(Av,(i:Int))))
 |x::k,i,Av=>(Option.bind (Aar L (x.Op)) λr1=>
 (Option.bind (bif (!r1.2) then(some true)
 else(Option.bind (Aaq L x r1.1) λr3=>
 (some (!r3)))) λb2=>
 (bif b2 then(some (0,(1,(i:Int))))
 else(Option.bind (Yf L x r1.1) λr4=>
 (bif (r4 != 0) then(some (0,(r4,(i:Int))))
 else(Option.bind (Jr (x.aK)) λr5=>
 (bif (r5 != 0) then(some (0,(r5,(i:Int))))
 else(Option.bind (Jr (x.aY)) λr6=>
 (bif (r6 != 0) then(some (0,(r6,(i:Int))))
 else(M5 Jr L a0 k (i+1) Av))))))))))
theorem Ard(Jr:(List Ad)->Option Int)(L:Nat)(a0:List Ad)(n:Nat)(hl:a0.length<=maxLen)(hn:a0.length<n):∀(Av:Int),Mt Jr L a0 n Av 0=M5 Jr L a0 a0 0 Av:=lQ (λk i n=>∀(Av:Int),Mt Jr L a0 n Av (i:Int)=M5 Jr L a0 k i Av) hl hn (λn i h Av=>by simp only[Mt,W1,M5,I5 h,aN,aB,aC]) (λn i x k h hx ih Av=>by simp only[Mt,W1,M5,I4 h,Ua h,hx,B2 h hl,ih,aN,aB,aC])
def Ew(L:Nat)(r2:List Ap)(a0:Al):List Ap->Nat->Int->List Yb->List Bool->Option (Nat×Int×Int×List Yb×List Bool)
 | [],i,Av,C4,C5=>(some (1,(Av,(i:Int),C4,C5)))
 |x::k,i,Av,C4,C5=>(Option.bind (Kj L (x.aG) a0 x C4 C5) λo7=>
 (bif (o7.1 != 0) then(some (0,(o7.1,(i:Int),o7.2.1,o7.2.2)))
 else(Option.bind (La L (x.bL)) λr8=>
 (bif (!r8) then(some (0,(1,(i:Int),o7.2.1,o7.2.2)))
 else(Ew L r2 a0 k (i+1) Av o7.2.1 o7.2.2)))))
theorem Alr(L:Nat)(r2:List Ap)(a0:Al)(n:Nat)(hl:r2.length<=maxLen)(hn:r2.length<n):∀(Av:Int) (C4:List Yb) (C5:List Bool),Ir L r2 a0 n Av 0 C4 C5=Ew L r2 a0 r2 0 Av C4 C5:=lQ (λk i n=>∀(Av:Int) (C4:List Yb) (C5:List Bool),Ir L r2 a0 n Av (i:Int) C4 C5=Ew L r2 a0 k i Av C4 C5) hl hn (λn i h Av C4 C5=>by simp only[Ir,Xt,Sh,Sa,Ew,I5 h,aN,aB,aC]) (λn i x k h hx ih Av C4 C5=>by simp only[Ir,Xt,Sh,Sa,Ew,I4 h,Ua h,hx,B2 h hl,ih,aN,aB,aC])
def It(L:Nat)(p1_0:List Al)(p1_1:Ac)(p1_2:Yb):List Al->Nat->Int->Option (Nat×Int×Int)
 | [],i,Aq=>(some (1,(Aq,(i:Int))))
 |x::k,i,Aq=>(bif (x.aG.toList == p1_2.toList) then(some (0,((i:Int),(i:Int))))
 else(It L p1_0 p1_1 p1_2 k (i+1) Aq))
theorem Alq(L:Nat)(p1_0:List Al)(p1_1:Ac)(p1_2:Yb)(n:Nat)(hl:p1_0.length<=maxLen)(hn:p1_0.length<n):∀(Aq:Int),Iq L p1_0 p1_1 p1_2 n Aq 0=It L p1_0 p1_1 p1_2 p1_0 0 Aq:=lQ (λk i n=>∀(Aq:Int),Iq L p1_0 p1_1 p1_2 n Aq (i:Int)=It L p1_0 p1_1 p1_2 k i Aq) hl hn (λn i h Aq=>by simp only[Iq,R6,It,I5 h,aN,aB,aC]) (λn i x k h hx ih Aq=>by simp only[Iq,R6,It,I4 h,Ua h,hx,B2 h hl,ih,aN,aB,aC])
def Ix(L:Nat)(a0:Ac)(r1:Int)(a1:Bt):List Int->Nat->Int->Option (Nat×Int×Int)
 | [],i,Av=>(some (1,(Av,(i:Int))))
 |x::k,i,Av=>(if((i:Int)<((((a0.aA.getD (Int.toNat r1) default).aJ).length:Nat):Int)) then(Option.bind (Ry L ((((a0.aA.getD (Int.toNat r1) default).aJ).getD (Int.toNat (i:Int)) default).bL) x) λr2=>
 (bif (!r2) then(some (0,(2,(i:Int))))
 else(Ix L a0 r1 a1 k (i+1) Av)))else none)
theorem Ao0(L:Nat)(a0:Ac)(r1:Int)(a1:Bt)(n:Nat)(hl:a1.aS.length<=maxLen)(hn:a1.aS.length<n):∀(Av:Int),Kw L a0 r1 a1 n Av 0=Ix L a0 r1 a1 a1.aS 0 Av:=lQ (λk i n=>∀(Av:Int),Kw L a0 r1 a1 n Av (i:Int)=Ix L a0 r1 a1 k i Av) hl hn (λn i h Av=>by simp only[Kw,Uy,Ix,I5 h,aN,aB,aC]) (λn i x k h hx ih Av=>by simp only[Kw,Uy,Ix,I4 h,Ua h,hx,B2 h hl,ih,aN,aB,aC])
def M4(L:Nat)(p1_0:List Ao)(p1_1:Ac)(p1_2:Ck):List Ao->Nat->Int->Option (Nat×Int×Int)
 | [],i,Aq=>(some (1,(Aq,(i:Int))))
 |x::k,i,Aq=>(bif (x.aG.toList == p1_2.aG.toList) then(some (0,((i:Int),(i:Int))))
 else(M4 L p1_0 p1_1 p1_2 k (i+1) Aq))
theorem Ara(L:Nat)(p1_0:List Ao)(p1_1:Ac)(p1_2:Ck)(n:Nat)(hl:p1_0.length<=maxLen)(hn:p1_0.length<n):∀(Aq:Int),Mq L p1_0 p1_1 p1_2 n Aq 0=M4 L p1_0 p1_1 p1_2 p1_0 0 Aq:=lQ (λk i n=>∀(Aq:Int),Mq L p1_0 p1_1 p1_2 n Aq (i:Int)=M4 L p1_0 p1_1 p1_2 k i Aq) hl hn (λn i h Aq=>by simp only[Mq,Wy,M4,I5 h,aN,aB,aC]) (λn i x k h hx ih Aq=>by simp only[Mq,Wy,M4,I4 h,Ua h,hx,B2 h hl,ih,aN,aB,aC])
def Ok(L:Nat)(p11_0:List Ck)(p11_1:Ac)(p11_2:List Yb)(p11_3:List Bool)(p11_4:Bg)(p11_5:Bg):List Ck->Nat->Int->Option (Nat×Int×Int)
 | [],i,C3=>(some (1,(C3,(i:Int))))
 |x::k,i,C3=>(Option.bind (Uj L p11_1 x) λr6=>
 (bif (r6 != 0) then(some (0,(r6,(i:Int))))
 else(Ok L p11_0 p11_1 p11_2 p11_3 p11_4 p11_5 k (i+1) C3)))
theorem Aq2(L:Nat)(p11_0:List Ck)(p11_1:Ac)(p11_2:List Yb)(p11_3:List Bool)(p11_4:Bg)(p11_5:Bg)(n:Nat)(hl:p11_0.length<=maxLen)(hn:p11_0.length<n):∀(C3:Int),Mi L p11_0 p11_1 p11_2 p11_3 p11_4 p11_5 n C3 0=Ok L p11_0 p11_1 p11_2 p11_3 p11_4 p11_5 p11_0 0 C3:=lQ (λk i n=>∀(C3:Int),Mi L p11_0 p11_1 p11_2 p11_3 p11_4 p11_5 n C3 (i:Int)=Ok L p11_0 p11_1 p11_2 p11_3 p11_4 p11_5 k i C3) hl hn (λn i h C3=>by simp only[Mi,Ww,Ok,I5 h,aN,aB,aC]) (λn i x k h hx ih C3=>by simp only[Mi,Ww,Ok,I4 h,Ua h,hx,B2 h hl,ih,aN,aB,aC])
def Oj(L:Nat)(p1_0:List Bg)(p1_1:Ac):List Bg->Nat->Int->List Yb->List Bool->Option (Nat×Int×Int×List Yb×List Bool)
 | [],i,Av,Ct,Cu=>(some (1,(Av,(i:Int),Ct,Cu)))
 |x::k,i,Av,Ct,Cu=>(Option.bind (Oi L x p1_1 Ct Cu x) λo10=>
 (bif (o10.1 != 0) then(some (0,(o10.1,(i:Int),o10.2.1,o10.2.2)))
 else(Oj L p1_0 p1_1 k (i+1) Av o10.2.1 o10.2.2)))
theorem Aq1(L:Nat)(p1_0:List Bg)(p1_1:Ac)(n:Nat)(hl:p1_0.length<=maxLen)(hn:p1_0.length<n):∀(Av:Int) (Ct:List Yb) (Cu:List Bool),Mh L p1_0 p1_1 n Av 0 Ct Cu=Oj L p1_0 p1_1 p1_0 0 Av Ct Cu:=lQ (λk i n=>∀(Av:Int) (Ct:List Yb) (Cu:List Bool),Mh L p1_0 p1_1 n Av (i:Int) Ct Cu=Oj L p1_0 p1_1 k i Av Ct Cu) hl hn (λn i h Av Ct Cu=>by simp only[Mh,Abm,Vr,U7,Oj,I5 h,aN,aB,aC]) (λn i x k h hx ih Av Ct Cu=>by simp only[Mh,Abm,Vr,U7,Oj,I4 h,Ua h,hx,B2 h hl,ih,aN,aB,aC])
def Ol(L:Nat)(p41_0:List Ai)(p41_1:Ac):List Ai->Nat->Int->List Yb->List Bool->Option (Nat×Int×Int×List Yb×List Bool)
 | [],i,Av,Ct,Cu=>(some (1,(Av,(i:Int),Ct,Cu)))
 |x::k,i,Av,Ct,Cu=>(Option.bind (Ns L x p41_1 Ct Cu x) λo8=>
 (bif (o8.1 != 0) then(some (0,(o8.1,(i:Int),o8.2.1,o8.2.2)))
 else(Ol L p41_0 p41_1 k (i+1) Av o8.2.1 o8.2.2)))
theorem Aq3(L:Nat)(p41_0:List Ai)(p41_1:Ac)(n:Nat)(hl:p41_0.length<=maxLen)(hn:p41_0.length<n):∀(Av:Int) (Ct:List Yb) (Cu:List Bool),Mj L p41_0 p41_1 n Av 0 Ct Cu=Ol L p41_0 p41_1 p41_0 0 Av Ct Cu:=lQ (λk i n=>∀(Av:Int) (Ct:List Yb) (Cu:List Bool),Mj L p41_0 p41_1 n Av (i:Int) Ct Cu=Ol L p41_0 p41_1 k i Av Ct Cu) hl hn (λn i h Av Ct Cu=>by simp only[Mj,Abn,Vv,Vc,Ol,I5 h,aN,aB,aC]) (λn i x k h hx ih Av Ct Cu=>by simp only[Mj,Abn,Vv,Vc,Ol,I4 h,Ua h,hx,B2 h hl,ih,aN,aB,aC])
def Om(L:Nat)(p48_0:List Ah)(p48_1:Ac):List Ah->Nat->Int->List Yb->List Bool->Option (Nat×Int×Int×List Yb×List Bool)
 | [],i,C3,Rb,Rc=>(some (1,(C3,(i:Int),Rb,Rc)))
 |x::k,i,C3,Rb,Rc=>(Option.bind (Nt L x p48_1 Rb Rc x) λo19=>
 (bif (o19.1 != 0) then(some (0,(o19.1,(i:Int),o19.2.1,o19.2.2)))
 else(Om L p48_0 p48_1 k (i+1) C3 o19.2.1 o19.2.2)))
theorem Aq4(L:Nat)(p48_0:List Ah)(p48_1:Ac)(n:Nat)(hl:p48_0.length<=maxLen)(hn:p48_0.length<n):∀(C3:Int) (Rb:List Yb) (Rc:List Bool),Mk L p48_0 p48_1 n C3 0 Rb Rc=Om L p48_0 p48_1 p48_0 0 C3 Rb Rc:=lQ (λk i n=>∀(C3:Int) (Rb:List Yb) (Rc:List Bool),Mk L p48_0 p48_1 n C3 (i:Int) Rb Rc=Om L p48_0 p48_1 k i C3 Rb Rc) hl hn (λn i h C3 Rb Rc=>by simp only[Mk,Abo,Vw,Vd,Om,I5 h,aN,aB,aC]) (λn i x k h hx ih C3 Rb Rc=>by simp only[Mk,Abo,Vw,Vd,Om,I4 h,Ua h,hx,B2 h hl,ih,aN,aB,aC])
def On(L:Nat)(p55_0:List Ao)(p55_1:Ac):List Ao->Nat->Int->List Yb->List Bool->Option (Nat×Int×Int×List Yb×List Bool)
 | [],i,N0,Re,Rf=>(some (1,(N0,(i:Int),Re,Rf)))
 |x::k,i,N0,Re,Rf=>(Option.bind (Nu L x p55_1 Re Rf x) λo29=>
 (bif (o29.1 != 0) then(some (0,(o29.1,(i:Int),o29.2.1,o29.2.2)))
 else(On L p55_0 p55_1 k (i+1) N0 o29.2.1 o29.2.2)))
theorem Aq5(L:Nat)(p55_0:List Ao)(p55_1:Ac)(n:Nat)(hl:p55_0.length<=maxLen)(hn:p55_0.length<n):∀(N0:Int) (Re:List Yb) (Rf:List Bool),Ml L p55_0 p55_1 n N0 0 Re Rf=On L p55_0 p55_1 p55_0 0 N0 Re Rf:=lQ (λk i n=>∀(N0:Int) (Re:List Yb) (Rf:List Bool),Ml L p55_0 p55_1 n N0 (i:Int) Re Rf=On L p55_0 p55_1 k i N0 Re Rf) hl hn (λn i h N0 Re Rf=>by simp only[Ml,Abp,Vx,Ve,On,I5 h,aN,aB,aC]) (λn i x k h hx ih N0 Re Rf=>by simp only[Ml,Abp,Vx,Ve,On,I4 h,Ua h,hx,B2 h hl,ih,aN,aB,aC])
def Oo(L:Nat)(p62_0:List Ar)(p62_1:Ac):List Ar->Nat->Int->List Yb->List Bool->Option (Nat×Int×Int×List Yb×List Bool)
 | [],i,Zj,Rg,Rh=>(some (1,(Zj,(i:Int),Rg,Rh)))
 |x::k,i,Zj,Rg,Rh=>(Option.bind (Nv L x p62_1 Rg Rh x) λo40=>
 (bif (o40.1 != 0) then(some (0,(o40.1,(i:Int),o40.2.1,o40.2.2)))
 else(Oo L p62_0 p62_1 k (i+1) Zj o40.2.1 o40.2.2)))
theorem Aq6(L:Nat)(p62_0:List Ar)(p62_1:Ac)(n:Nat)(hl:p62_0.length<=maxLen)(hn:p62_0.length<n):∀(Zj:Int) (Rg:List Yb) (Rh:List Bool),Mm L p62_0 p62_1 n Zj 0 Rg Rh=Oo L p62_0 p62_1 p62_0 0 Zj Rg Rh:=lQ (λk i n=>∀(Zj:Int) (Rg:List Yb) (Rh:List Bool),Mm L p62_0 p62_1 n Zj (i:Int) Rg Rh=Oo L p62_0 p62_1 k i Zj Rg Rh) hl hn (λn i h Zj Rg Rh=>by simp only[Mm,Abq,Vy,Vf,Oo,I5 h,aN,aB,aC]) (λn i x k h hx ih Zj Rg Rh=>by simp only[Mm,Abq,Vy,Vf,Oo,I4 h,Ua h,hx,B2 h hl,ih,aN,aB,aC])
def Oq(L:Nat)(p69_0:List Yb)(p69_1:Ac):List Yb->Nat->Int->List Yb->List Bool->Option (Nat×Int×Int×List Yb×List Bool)
 | [],i,Zk,Ri,Rj=>(some (1,(Zk,(i:Int),Ri,Rj)))
 |x::k,i,Zk,Ri,Rj=>(Option.bind (Nw L x p69_1 Ri Rj) λo47=>
 (bif (o47.1 != 0) then(some (0,(o47.1,(i:Int),o47.2.1,o47.2.2)))
 else(Oq L p69_0 p69_1 k (i+1) Zk o47.2.1 o47.2.2)))
theorem Aq7(L:Nat)(p69_0:List Yb)(p69_1:Ac)(n:Nat)(hl:p69_0.length<=maxLen)(hn:p69_0.length<n):∀(Zk:Int) (Ri:List Yb) (Rj:List Bool),Mn L p69_0 p69_1 n Zk 0 Ri Rj=Oq L p69_0 p69_1 p69_0 0 Zk Ri Rj:=lQ (λk i n=>∀(Zk:Int) (Ri:List Yb) (Rj:List Bool),Mn L p69_0 p69_1 n Zk (i:Int) Ri Rj=Oq L p69_0 p69_1 k i Zk Ri Rj) hl hn (λn i h Zk Ri Rj=>by simp only[Mn,Abr,Vz,Vg,Oq,I5 h,aN,aB,aC]) (λn i x k h hx ih Zk Ri Rj=>by simp only[Mn,Abr,Vz,Vg,Oq,I4 h,Ua h,hx,B2 h hl,ih,aN,aB,aC])
def Ot(L:Nat)(p72_0:List Al)(p72_1:Ac):List Al->Nat->Int->List Yb->List Bool->Option (Nat×Int×Int×List Yb×List Bool)
 | [],i,Zl,Rk,Rl=>(some (1,(Zl,(i:Int),Rk,Rl)))
 |x::k,i,Zl,Rk,Rl=>(Option.bind (Nx L x p72_1 Rk Rl x) λo60=>
 (bif (o60.1 != 0) then(some (0,(o60.1,(i:Int),o60.2.1,o60.2.2)))
 else(Ot L p72_0 p72_1 k (i+1) Zl o60.2.1 o60.2.2)))
theorem Aq8(L:Nat)(p72_0:List Al)(p72_1:Ac)(n:Nat)(hl:p72_0.length<=maxLen)(hn:p72_0.length<n):∀(Zl:Int) (Rk:List Yb) (Rl:List Bool),Mo L p72_0 p72_1 n Zl 0 Rk Rl=Ot L p72_0 p72_1 p72_0 0 Zl Rk Rl:=lQ (λk i n=>∀(Zl:Int) (Rk:List Yb) (Rl:List Bool),Mo L p72_0 p72_1 n Zl (i:Int) Rk Rl=Ot L p72_0 p72_1 k i Zl Rk Rl) hl hn (λn i h Zl Rk Rl=>by simp only[Mo,Abs,Ty,Tp,Ot,I5 h,aN,aB,aC]) (λn i x k h hx ih Zl Rk Rl=>by simp only[Mo,Abs,Ty,Tp,Ot,I4 h,Ua h,hx,B2 h hl,ih,aN,aB,aC])
def Ou(L:Nat)(p79_0:List Bt)(p79_1:Ac)(p79_2:List Yb)(p79_3:List Bool):List Bt->Nat->Int->Option (Nat×Int×Int)
 | [],i,Ajp=>(some (1,(Ajp,(i:Int))))
 |x::k,i,Ajp=>(Option.bind (Sq L p79_1 x) λr63=>
 (bif (r63 != 0) then(some (0,(r63,(i:Int))))
 else(Ou L p79_0 p79_1 p79_2 p79_3 k (i+1) Ajp)))
theorem Aq9(L:Nat)(p79_0:List Bt)(p79_1:Ac)(p79_2:List Yb)(p79_3:List Bool)(n:Nat)(hl:p79_0.length<=maxLen)(hn:p79_0.length<n):∀(Ajp:Int),Mp L p79_0 p79_1 p79_2 p79_3 n Ajp 0=Ou L p79_0 p79_1 p79_2 p79_3 p79_0 0 Ajp:=lQ (λk i n=>∀(Ajp:Int),Mp L p79_0 p79_1 p79_2 p79_3 n Ajp (i:Int)=Ou L p79_0 p79_1 p79_2 p79_3 k i Ajp) hl hn (λn i h Ajp=>by simp only[Mp,Wx,Ou,I5 h,aN,aB,aC]) (λn i x k h hx ih Ajp=>by simp only[Mp,Wx,Ou,I4 h,Ua h,hx,B2 h hl,ih,aN,aB,aC])
def M3(L:Nat)(p1_0:List Ac)(p1_1:Ag)(p1_2:Yb):List Ac->Nat->Int->Option (Nat×Int×Int)
 | [],i,Aq=>(some (1,(Aq,(i:Int))))
 |x::k,i,Aq=>(bif (x.aG.toList == p1_2.toList) then(some (0,((i:Int),(i:Int))))
 else(M3 L p1_0 p1_1 p1_2 k (i+1) Aq))
theorem Aq0(L:Nat)(p1_0:List Ac)(p1_1:Ag)(p1_2:Yb)(n:Nat)(hl:p1_0.length<=maxLen)(hn:p1_0.length<n):∀(Aq:Int),Mg L p1_0 p1_1 p1_2 n Aq 0=M3 L p1_0 p1_1 p1_2 p1_0 0 Aq:=lQ (λk i n=>∀(Aq:Int),Mg L p1_0 p1_1 p1_2 n Aq (i:Int)=M3 L p1_0 p1_1 p1_2 k i Aq) hl hn (λn i h Aq=>by simp only[Mg,Wv,M3,I5 h,aN,aB,aC]) (λn i x k h hx ih Aq=>by simp only[Mg,Wv,M3,I4 h,Ua h,hx,B2 h hl,ih,aN,aB,aC])
def Iw(L:Nat)(p1_0:List Bf)(p1_1:Ag):List Bf->Nat->Int->List Bv->List Bool->Option (Nat×Int×Int×List Bv×List Bool)
 | [],i,Av,C4,C5=>(some (1,(Av,(i:Int),C4,C5)))
 |x::k,i,Av,C4,C5=>(Option.bind (Qt L x p1_1 C4 C5 x) λo8=>
 (bif (o8.1 != 0) then(some (0,(o8.1,(i:Int),o8.2.1,o8.2.2)))
 else(Iw L p1_0 p1_1 k (i+1) Av o8.2.1 o8.2.2)))
theorem Aov(L:Nat)(p1_0:List Bf)(p1_1:Ag)(n:Nat)(hl:p1_0.length<=maxLen)(hn:p1_0.length<n):∀(Av:Int) (C4:List Bv) (C5:List Bool),Kr L p1_0 p1_1 n Av 0 C4 C5=Iw L p1_0 p1_1 p1_0 0 Av C4 C5:=lQ (λk i n=>∀(Av:Int) (C4:List Bv) (C5:List Bool),Kr L p1_0 p1_1 n Av (i:Int) C4 C5=Iw L p1_0 p1_1 k i Av C4 C5) hl hn (λn i h Av C4 C5=>by simp only[Kr,l6,Vs,U9,Iw,I5 h,aN,aB,aC]) (λn i x k h hx ih Av C4 C5=>by simp only[Kr,l6,Vs,U9,Iw,I4 h,Ua h,hx,B2 h hl,ih,aN,aB,aC])
def Ny(L:Nat)(p1_0:List Ai)(p1_1:Ag):List Ai->Nat->Int->List Yb->List Bool->Option (Nat×Int×Int×List Yb×List Bool)
 | [],i,Av,C4,C5=>(some (1,(Av,(i:Int),C4,C5)))
 |x::k,i,Av,C4,C5=>(Option.bind (Nr L x p1_1 C4 C5 x) λo9=>
 (bif (o9.1 != 0) then(some (0,(o9.1,(i:Int),o9.2.1,o9.2.2)))
 else(Ny L p1_0 p1_1 k (i+1) Av o9.2.1 o9.2.2)))
theorem Aot(L:Nat)(p1_0:List Ai)(p1_1:Ag)(n:Nat)(hl:p1_0.length<=maxLen)(hn:p1_0.length<n):∀(Av:Int) (C4:List Yb) (C5:List Bool),Ko L p1_0 p1_1 n Av 0 C4 C5=Ny L p1_0 p1_1 p1_0 0 Av C4 C5:=lQ (λk i n=>∀(Av:Int) (C4:List Yb) (C5:List Bool),Ko L p1_0 p1_1 n Av (i:Int) C4 C5=Ny L p1_0 p1_1 k i Av C4 C5) hl hn (λn i h Av C4 C5=>by simp only[Ko,l4,Vp,U6,Ny,I5 h,aN,aB,aC]) (λn i x k h hx ih Av C4 C5=>by simp only[Ko,l4,Vp,U6,Ny,I4 h,Ua h,hx,B2 h hl,ih,aN,aB,aC])
def Nz(L:Nat)(p8_0:List Ac)(p8_1:Ag)(p8_2:List Yb)(p8_3:List Bool):List Ac->Nat->Int->List Yb->List Bool->Option (Nat×Int×Int×List Yb×List Bool)
 | [],i,C3,Q0,Ra=>(some (1,(C3,(i:Int),Q0,Ra)))
 |x::k,i,C3,Q0,Ra=>(Option.bind (Lz L x p8_1 p8_2 p8_3 Q0 Ra x) λo18=>
 (bif (o18.1 != 0) then(some (0,(o18.1,(i:Int),o18.2.1,o18.2.2)))
 else(Nz L p8_0 p8_1 p8_2 p8_3 k (i+1) C3 o18.2.1 o18.2.2)))
theorem Aou(L:Nat)(p8_0:List Ac)(p8_1:Ag)(p8_2:List Yb)(p8_3:List Bool)(n:Nat)(hl:p8_0.length<=maxLen)(hn:p8_0.length<n):∀(C3:Int) (Q0:List Yb) (Ra:List Bool),Kq L p8_0 p8_1 p8_2 p8_3 n C3 0 Q0 Ra=Nz L p8_0 p8_1 p8_2 p8_3 p8_0 0 C3 Q0 Ra:=lQ (λk i n=>∀(C3:Int) (Q0:List Yb) (Ra:List Bool),Kq L p8_0 p8_1 p8_2 p8_3 n C3 (i:Int) Q0 Ra=Nz L p8_0 p8_1 p8_2 p8_3 k i C3 Q0 Ra) hl hn (λn i h C3 Q0 Ra=>by simp only[Kq,l5,Tv,Tl,Nz,I5 h,aN,aB,aC]) (λn i x k h hx ih C3 Q0 Ra=>by simp only[Kq,l5,Tv,Tl,Nz,I4 h,Ua h,hx,B2 h hl,ih,aN,aB,aC])
def K7(L:Nat)(a1:Yb)(a0:Az):List Ai->Nat->Int->Bool->Option (Nat×Int×Bool×Int)
 | [],i,Aq,Bl=>(some (1,(Aq,Bl,(i:Int))))
 |x::k,i,Aq,Bl=>(bif (x.aG.toList == a1.toList) then(some (0,((x.bL),true,(i:Int))))
 else(K7 L a1 a0 k (i+1) Aq Bl))
theorem Ao1(L:Nat)(a1:Yb)(a0:Az)(n:Nat)(hl:a0.aI.bG.length<=maxLen)(hn:a0.aI.bG.length<n):∀(Aq:Int) (Bl:Bool),Ky L a1 a0 n Aq Bl 0=K7 L a1 a0 a0.aI.bG 0 Aq Bl:=lQ (λk i n=>∀(Aq:Int) (Bl:Bool),Ky L a1 a0 n Aq Bl (i:Int)=K7 L a1 a0 k i Aq Bl) hl hn (λn i h Aq Bl=>by simp only[Ky,Uz,K7,I5 h,aN,aB,aC]) (λn i x k h hx ih Aq Bl=>by simp only[Ky,Uz,K7,I4 h,Ua h,hx,B2 h hl,ih,aN,aB,aC])
def K8(L:Nat)(a1:Yb)(a0:Az):List Ai->Nat->Int->Bool->Option (Nat×Int×Bool×Int)
 | [],i,I6,Lm=>(some (1,(I6,Lm,(i:Int))))
 |x::k,i,I6,Lm=>(bif (x.aG.toList == a1.toList) then(some (0,((x.bL),true,(i:Int))))
 else(K8 L a1 a0 k (i+1) I6 Lm))
theorem Ao2(L:Nat)(a1:Yb)(a0:Az)(n:Nat)(hl:a0.aJ.length<=maxLen)(hn:a0.aJ.length<n):∀(I6:Int) (Lm:Bool),Kz L a1 a0 n I6 Lm 0=K8 L a1 a0 a0.aJ 0 I6 Lm:=lQ (λk i n=>∀(I6:Int) (Lm:Bool),Kz L a1 a0 n I6 Lm (i:Int)=K8 L a1 a0 k i I6 Lm) hl hn (λn i h I6 Lm=>by simp only[Kz,U0,K8,I5 h,aN,aB,aC]) (λn i x k h hx ih I6 Lm=>by simp only[Kz,U0,K8,I4 h,Ua h,hx,B2 h hl,ih,aN,aB,aC])
def K3(L:Nat)(p1_0:List Ai)(p1_1:Ac)(p1_2:Yb):List Ai->Nat->Int->Option (Nat×Int×Int)
 | [],i,Aq=>(some (1,(Aq,(i:Int))))
 |x::k,i,Aq=>(bif (x.aG.toList == p1_2.toList) then(some (0,((i:Int),(i:Int))))
 else(K3 L p1_0 p1_1 p1_2 k (i+1) Aq))
theorem Aow(L:Nat)(p1_0:List Ai)(p1_1:Ac)(p1_2:Yb)(n:Nat)(hl:p1_0.length<=maxLen)(hn:p1_0.length<n):∀(Aq:Int),Ks L p1_0 p1_1 p1_2 n Aq 0=K3 L p1_0 p1_1 p1_2 p1_0 0 Aq:=lQ (λk i n=>∀(Aq:Int),Ks L p1_0 p1_1 p1_2 n Aq (i:Int)=K3 L p1_0 p1_1 p1_2 k i Aq) hl hn (λn i h Aq=>by simp only[Ks,Uu,K3,I5 h,aN,aB,aC]) (λn i x k h hx ih Aq=>by simp only[Ks,Uu,K3,I4 h,Ua h,hx,B2 h hl,ih,aN,aB,aC])
def K4(L:Nat)(p2_0:List Ah)(p2_1:Ac)(p2_2:Yb):List Ah->Nat->Int->Option (Nat×Int×Int)
 | [],i,I6=>(some (1,(I6,(i:Int))))
 |x::k,i,I6=>(bif (x.aG.toList == p2_2.toList) then(some (0,((i:Int),(i:Int))))
 else(K4 L p2_0 p2_1 p2_2 k (i+1) I6))
theorem Aox(L:Nat)(p2_0:List Ah)(p2_1:Ac)(p2_2:Yb)(n:Nat)(hl:p2_0.length<=maxLen)(hn:p2_0.length<n):∀(I6:Int),Kt L p2_0 p2_1 p2_2 n I6 0=K4 L p2_0 p2_1 p2_2 p2_0 0 I6:=lQ (λk i n=>∀(I6:Int),Kt L p2_0 p2_1 p2_2 n I6 (i:Int)=K4 L p2_0 p2_1 p2_2 k i I6) hl hn (λn i h I6=>by simp only[Kt,Uv,K4,I5 h,aN,aB,aC]) (λn i x k h hx ih I6=>by simp only[Kt,Uv,K4,I4 h,Ua h,hx,B2 h hl,ih,aN,aB,aC])
def K5(L:Nat)(p3_0:List Ao)(p3_1:Ac)(p3_2:Yb):List Ao->Nat->Int->Option (Nat×Int×Int)
 | [],i,Ajn=>(some (1,(Ajn,(i:Int))))
 |x::k,i,Ajn=>(bif (x.aG.toList == p3_2.toList) then(some (0,((i:Int),(i:Int))))
 else(K5 L p3_0 p3_1 p3_2 k (i+1) Ajn))
theorem Aoy(L:Nat)(p3_0:List Ao)(p3_1:Ac)(p3_2:Yb)(n:Nat)(hl:p3_0.length<=maxLen)(hn:p3_0.length<n):∀(Ajn:Int),Ku L p3_0 p3_1 p3_2 n Ajn 0=K5 L p3_0 p3_1 p3_2 p3_0 0 Ajn:=lQ (λk i n=>∀(Ajn:Int),Ku L p3_0 p3_1 p3_2 n Ajn (i:Int)=K5 L p3_0 p3_1 p3_2 k i Ajn) hl hn (λn i h Ajn=>by simp only[Ku,Uw,K5,I5 h,aN,aB,aC]) (λn i x k h hx ih Ajn=>by simp only[Ku,Uw,K5,I4 h,Ua h,hx,B2 h hl,ih,aN,aB,aC])
def K6(L:Nat)(p4_0:List Ar)(p4_1:Ac)(p4_2:Yb):List Ar->Nat->Int->Option (Nat×Int×Int)
 | [],i,Ajo=>(some (1,(Ajo,(i:Int))))
 |x::k,i,Ajo=>(bif (x.aG.toList == p4_2.toList) then(some (0,((i:Int),(i:Int))))
 else(K6 L p4_0 p4_1 p4_2 k (i+1) Ajo))
theorem Aoz(L:Nat)(p4_0:List Ar)(p4_1:Ac)(p4_2:Yb)(n:Nat)(hl:p4_0.length<=maxLen)(hn:p4_0.length<n):∀(Ajo:Int),Kv L p4_0 p4_1 p4_2 n Ajo 0=K6 L p4_0 p4_1 p4_2 p4_0 0 Ajo:=lQ (λk i n=>∀(Ajo:Int),Kv L p4_0 p4_1 p4_2 n Ajo (i:Int)=K6 L p4_0 p4_1 p4_2 k i Ajo) hl hn (λn i h Ajo=>by simp only[Kv,Ux,K6,I5 h,aN,aB,aC]) (λn i x k h hx ih Ajo=>by simp only[Kv,Ux,K6,I4 h,Ua h,hx,B2 h hl,ih,aN,aB,aC])
def Iy(L7:Az->Aa->Option (Int×Int))(L:Nat)(a1:Aa)(a0:Az):List Aa->Nat->Int->Int->List Int->Option (Nat×Int×Int×List Int×Int)
 | [],i,Av,Aq,Bl=>(some (1,(Av,Aq,Bl,(i:Int))))
 |x::k,i,Av,Aq,Bl=>(Option.bind (L7 a0 x) λr1=>
 (bif (r1.2 != 0) then(some (0,(0,r1.2,Bl,(i:Int))))
 else(if((Bl.length+ [r1.1].length)*8<=140737488355328) then(if(Bl.length+ [r1.1].length<=maxLen) then(Iy L7 L a1 a0 k (i+1) Av Aq (Bl++ [r1.1]))else none)else none)))
theorem Ao3(L7:Az->Aa->Option (Int×Int))(L:Nat)(a1:Aa)(a0:Az)(n:Nat)(hl:a1.bJ.length<=maxLen)(hn:a1.bJ.length<n):∀(Av:Int) (Aq:Int) (Bl:List Int),K0 L7 L a1 a0 n Av Aq Bl 0=Iy L7 L a1 a0 a1.bJ 0 Av Aq Bl:=lQ (λk i n=>∀(Av:Int) (Aq:Int) (Bl:List Int),K0 L7 L a1 a0 n Av Aq Bl (i:Int)=Iy L7 L a1 a0 k i Av Aq Bl) hl hn (λn i h Av Aq Bl=>by simp only[K0,U1,Iy,I5 h,aN,aB,aC]) (λn i x k h hx ih Av Aq Bl=>by simp only[K0,U1,Iy,I4 h,Ua h,hx,B2 h hl,ih,aN,aB,aC])
def Ee(L:Nat)(r1:Int×Int)(a2:List Int)(a1:Aa):List Int->Nat->Int->Option (Nat×Int×Int)
 | [],i,Av=>(some (1,(Av,(i:Int))))
 |x::k,i,Av=>(bif (r1.1 == x) then(some (0,(0,(i:Int))))
 else(Ee L r1 a2 a1 k (i+1) Av))
theorem Ady(L:Nat)(r1:Int×Int)(a2:List Int)(a1:Aa)(n:Nat)(hl:a2.length<=maxLen)(hn:a2.length<n):∀(Av:Int),D8 L r1 a2 a1 n Av 0=Ee L r1 a2 a1 a2 0 Av:=lQ (λk i n=>∀(Av:Int),D8 L r1 a2 a1 n Av (i:Int)=Ee L r1 a2 a1 k i Av) hl hn (λn i h Av=>by simp only[D8,J1,Ee,I5 h,aN,aB,aC]) (λn i x k h hx ih Av=>by simp only[D8,J1,Ee,I4 h,Ua h,hx,B2 h hl,ih,aN,aB,aC])
def F7(L:Nat)(a0:Am)(r1:Int×Bool)(a1:Ad):List Ai->Nat->Int->Option (Nat×Int×Int)
 | [],i,B6=>(some (1,(B6,(i:Int))))
 |x::k,i,B6=>(bif (x.aG.toList == a1.aG.toList) then(Option.bind (B7 L a0 a1.E [x.bL]) λr2=>
 (some (0,(r2,(i:Int)))))
 else(F7 L a0 r1 a1 k (i+1) B6))
theorem Afj(L:Nat)(a0:Am)(r1:Int×Bool)(a1:Ad)(n:Nat)(hl:a0.aF.aI.bG.length<=maxLen)(hn:a0.aF.aI.bG.length<n):∀(B6:Int),F6 L a0 r1 a1 n B6 0=F7 L a0 r1 a1 a0.aF.aI.bG 0 B6:=lQ (λk i n=>∀(B6:Int),F6 L a0 r1 a1 n B6 (i:Int)=F7 L a0 r1 a1 k i B6) hl hn (λn i h B6=>by simp only[F6,L2,F7,I5 h,aN,aB,aC]) (λn i x k h hx ih B6=>by simp only[F6,L2,F7,I4 h,Ua h,hx,B2 h hl,ih,aN,aB,aC])
def Dz(L:Nat)(r1:Int×Bool)(a2:List Int):List Int->Nat->Int->Option (Nat×Int×Int)
 | [],i,Av=>(some (1,(Av,(i:Int))))
 |x::k,i,Av=>(bif (r1.1 == x) then(some (0,(0,(i:Int))))
 else(Dz L r1 a2 k (i+1) Av))
theorem Acu(L:Nat)(r1:Int×Bool)(a2:List Int)(n:Nat)(hl:a2.length<=maxLen)(hn:a2.length<n):∀(Av:Int),Dy L r1 a2 n Av 0=Dz L r1 a2 a2 0 Av:=lQ (λk i n=>∀(Av:Int),Dy L r1 a2 n Av (i:Int)=Dz L r1 a2 k i Av) hl hn (λn i h Av=>by simp only[Dy,Ji,Dz,I5 h,aN,aB,aC]) (λn i x k h hx ih Av=>by simp only[Dy,Ji,Dz,I4 h,Ua h,hx,B2 h hl,ih,aN,aB,aC])
def D9(L:Nat)(a0:Am)(a3:List Aa)(a1:Ad):List Aa->Nat->Int->Option (Nat×Int×Int)
 | [],i,B6=>(some (1,(B6,(i:Int))))
 |x::k,i,B6=>(Option.bind (B7 L a0 x [1]) λr2=>
 (bif (r2 != 0) then(some (0,(r2,(i:Int))))
 else(D9 L a0 a3 a1 k (i+1) B6)))
theorem Adx(L:Nat)(a0:Am)(a3:List Aa)(a1:Ad)(n:Nat)(hl:a3.length<=maxLen)(hn:a3.length<n):∀(B6:Int),D7 L a0 a3 a1 n B6 0=D9 L a0 a3 a1 a3 0 B6:=lQ (λk i n=>∀(B6:Int),D7 L a0 a3 a1 n B6 (i:Int)=D9 L a0 a3 a1 k i B6) hl hn (λn i h B6=>by simp only[D7,J0,D9,I5 h,aN,aB,aC]) (λn i x k h hx ih B6=>by simp only[D7,J0,D9,I4 h,Ua h,hx,B2 h hl,ih,aN,aB,aC])
def Mz(L:Nat)(p1_0:List Bf)(p1_1:Ag)(p1_2:Yb)(p1_3:Yb):List Bf->Nat->Int->Option (Nat×Int×Int)
 | [],i,Aq=>(some (1,(Aq,(i:Int))))
 |x::k,i,Aq=>((λb1=>
 (bif b1 then(some (0,((i:Int),(i:Int))))
 else(Mz L p1_0 p1_1 p1_2 p1_3 k (i+1) Aq))) (bif (x.dA.toList == p1_2.toList) then(x.To.toList == p1_3.toList)
 else false))
theorem Aqz(L:Nat)(p1_0:List Bf)(p1_1:Ag)(p1_2:Yb)(p1_3:Yb)(n:Nat)(hl:p1_0.length<=maxLen)(hn:p1_0.length<n):∀(Aq:Int),Mf L p1_0 p1_1 p1_2 p1_3 n Aq 0=Mz L p1_0 p1_1 p1_2 p1_3 p1_0 0 Aq:=lQ (λk i n=>∀(Aq:Int),Mf L p1_0 p1_1 p1_2 p1_3 n Aq (i:Int)=Mz L p1_0 p1_1 p1_2 p1_3 k i Aq) hl hn (λn i h Aq=>by simp only[Mf,Wu,Mz,I5 h,aN,aB,aC]) (λn i x k h hx ih Aq=>by simp only[Mf,Wu,Mz,I4 h,Ua h,hx,B2 h hl,ih,aN,aB,aC])
def Ez(L:Nat)(a0:Am)(a2:Ad)(a1:Al):List Aa->Nat->Int->Option (Nat×Int×Int)
 | [],i,B6=>(some (1,(B6,(i:Int))))
 |x::k,i,B6=>(if((i:Int)<(a1.aJ.length:Int)) then(Option.bind (B7 L a0 x [(a1.aJ.getD (Int.toNat (i:Int)) default).bL]) λr1=>
 (bif (r1 != 0) then(some (0,(r1,(i:Int))))
 else(Ez L a0 a2 a1 k (i+1) B6)))else none)
theorem Aed(L:Nat)(a0:Am)(a2:Ad)(a1:Al)(n:Nat)(hl:a2.aS.length<=maxLen)(hn:a2.aS.length<n):∀(B6:Int),Es L a0 a2 a1 n B6 0=Ez L a0 a2 a1 a2.aS 0 B6:=lQ (λk i n=>∀(B6:Int),Es L a0 a2 a1 n B6 (i:Int)=Ez L a0 a2 a1 k i B6) hl hn (λn i h B6=>by simp only[Es,Lg,Ez,I5 h,aN,aB,aC]) (λn i x k h hx ih B6=>by simp only[Es,Lg,Ez,I4 h,Ua h,hx,B2 h hl,ih,aN,aB,aC])
def E5(K9:Am->(List Ad)->Option Int)(L:Nat)(a0:Am)(a1:List Ad):List Ad->Nat->Int->Option (Nat×Int×Int)
 | [],i,B6=>(some (1,(B6,(i:Int))))
 |x::k,i,B6=>(Option.bind (Lp L a0 x) λr1=>
 (bif (r1 != 0) then(some (0,(r1,(i:Int))))
 else(Option.bind (K9 a0 (x.aK)) λr2=>
 (bif (r2 != 0) then(some (0,(r2,(i:Int))))
 else(Option.bind (K9 a0 (x.aY)) λr3=>
 (bif (r3 != 0) then(some (0,(r3,(i:Int))))
 else(E5 K9 L a0 a1 k (i+1) B6)))))))
theorem Aee(K9:Am->(List Ad)->Option Int)(L:Nat)(a0:Am)(a1:List Ad)(n:Nat)(hl:a1.length<=maxLen)(hn:a1.length<n):∀(B6:Int),Et K9 L a0 a1 n B6 0=E5 K9 L a0 a1 a1 0 B6:=lQ (λk i n=>∀(B6:Int),Et K9 L a0 a1 n B6 (i:Int)=E5 K9 L a0 a1 k i B6) hl hn (λn i h B6=>by simp only[Et,Lh,E5,I5 h,aN,aB,aC]) (λn i x k h hx ih B6=>by simp only[Et,Lh,E5,I4 h,Ua h,hx,B2 h hl,ih,aN,aB,aC])
def Jo(L:Nat)(Ak:Int)(a0:Ag):List Al->Nat->Int->Option (Nat×Int×Int)
 | [],i,C3=>(some (1,(C3,(i:Int))))
 |x::k,i,C3=>(if((0+x.aJ.length)*24<=140737488355328) then(if(0+x.aJ.length<=maxLen) then(if((x.aJ.length+x.aL.length)*24<=140737488355328) then(if(x.aJ.length+x.aL.length<=maxLen) then(Option.bind (C0 L a0 Ak (x.aJ++x.aL) (x.aK)) λr2=>
 (bif (r2 != 0) then(some (0,(r2,(i:Int))))
 else(Jo L Ak a0 k (i+1) C3)))else none)else none)else none)else none)
theorem Am3(L:Nat)(Ak:Int)(a0:Ag)(n:Nat)(hl:((a0.aD.getD (Int.toNat Ak) default).aA).length<=maxLen)(hn:((a0.aD.getD (Int.toNat Ak) default).aA).length<n):∀(C3:Int),H2 L Ak a0 n C3 0=Jo L Ak a0 ((a0.aD.getD (Int.toNat Ak) default).aA) 0 C3:=lQ (λk i n=>∀(C3:Int),H2 L Ak a0 n C3 (i:Int)=Jo L Ak a0 k i C3) hl hn (λn i h C3=>by simp only[H2,Tg,Jo,I5 h,aN,aB,aC]) (λn i x k h hx ih C3=>by simp only[H2,Tg,Jo,I4 h,Ua h,hx,B2 h hl,ih,aN,aB,aC])
def Jn(L:Nat)(a0:Ag):List Ac->Nat->Int->Option (Nat×Int×Int)
 | [],i,Av=>(some (1,(Av,(i:Int))))
 |x::k,i,Av=>(Option.bind (H2 L (i:Int) a0 L Av 0) λo3=>
 (Atz o3.1 [(some (0,(o3.2.1,(i:Int)))),(Jn L a0 k (i+1) o3.2.1)]))
theorem Am2(L:Nat)(a0:Ag)(n:Nat)(hl:a0.aD.length<=maxLen)(hn:a0.aD.length<n):∀(Av:Int),Jk L a0 n Av 0=Jn L a0 a0.aD 0 Av:=lQ (λk i n=>∀(Av:Int),Jk L a0 n Av (i:Int)=Jn L a0 k i Av) hl hn (λn i h Av=>by simp only[Jk,Y1,Tz,Tr,Jn,I5 h,aN,aB,aC]) (λn i x k h hx ih Av=>by simp only[Jk,Y1,Tz,Tr,Jn,I4 h,Ua h,hx,B2 h hl,ih,aN,aB,aC])
def Dt(L:Nat)(p1_0:List Ai)(p1_1:Yb):List Ai->Nat->Int->Option (Nat×Int×Int)
 | [],i,Aq=>(some (1,(Aq,(i:Int))))
 |x::k,i,Aq=>(bif (x.aG.toList == p1_1.toList) then(some (0,((i:Int),(i:Int))))
 else(Dt L p1_0 p1_1 k (i+1) Aq))
theorem Abx(L:Nat)(p1_0:List Ai)(p1_1:Yb)(n:Nat)(hl:p1_0.length<=maxLen)(hn:p1_0.length<n):∀(Aq:Int),Ds L p1_0 p1_1 n Aq 0=Dt L p1_0 p1_1 p1_0 0 Aq:=lQ (λk i n=>∀(Aq:Int),Ds L p1_0 p1_1 n Aq (i:Int)=Dt L p1_0 p1_1 k i Aq) hl hn (λn i h Aq=>by simp only[Ds,I1,Dt,I5 h,aN,aB,aC]) (λn i x k h hx ih Aq=>by simp only[Ds,I1,Dt,I4 h,Ua h,hx,B2 h hl,ih,aN,aB,aC])
def Dh(D6:Ab->Aa->Option (Aa×Ab))(Hb:Ab->(List Aa)->Option ((List Aa)×Ab))(L:Nat)(a1:List Aa):List Aa->Nat->List Aa->Yb->List Ai->List Ac->List Bf->List Ai->List Ap->Yb->List Ai->List Ah->List Ao->List Ar->List Yb->List Yb->List Yb->List Yb->List Yb->List Al->List Bt->List Bg->Int->Option (Nat×List Aa×Int×Yb×List Ai×List Ac×List Bf×List Ai×List Ap×Yb×List Ai×List Ah×List Ao×List Ar×List Yb×List Yb×List Yb×List Yb×List Yb×List Al×List Bt×List Bg×Int)
 | [],i,Aq,Hs,S6,S7,C4,C5,J9,Ka,Kb,Kc,Kd,Ke,Kf,Ct,Cu,Kg,B6,H3,Gs,Dd,Gv=>(some (0,(Aq,(i:Int),Hs,S6,S7,C4,C5,J9,Ka,Kb,Kc,Kd,Ke,Kf,Ct,Cu,Kg,B6,H3,Gs,Dd,Gv)))
 |x::k,i,Aq,Hs,S6,S7,C4,C5,J9,Ka,Kb,Kc,Kd,Ke,Kf,Ct,Cu,Kg,B6,H3,Gs,Dd,Gv=>(Option.bind (D6 (⟨(⟨Hs,S6,S7,C4⟩:Ag),(⟨C5,J9,(⟨Ka,Kb,Kc,Kd,Ke,Kf,Ct,Cu,Kg,B6,H3,Gs,Dd⟩:Ac)⟩:Az),Gv⟩:Ab) x) λr1=>
 (if((Aq.length+ [r1.1].length)*56<=140737488355328) then(if(Aq.length+ [r1.1].length<=maxLen) then(Dh D6 Hb L a1 k (i+1) (Aq++ [r1.1]) r1.2.bM.aG r1.2.bM.aJ r1.2.bM.aD r1.2.bM.bC r1.2.aF.aJ r1.2.aF.aL r1.2.aF.aI.aG r1.2.aF.aI.bG r1.2.aF.aI.aM r1.2.aF.aI.aO r1.2.aF.aI.bH r1.2.aF.aI.aX r1.2.aF.aI.aR r1.2.aF.aI.aT r1.2.aF.aI.bA r1.2.aF.aI.aU r1.2.aF.aI.aA r1.2.aF.aI.aZ r1.2.aF.aI.Laws r1.2.aW)else none)else none))
theorem V6(D6:Ab->Aa->Option (Aa×Ab))(Hb:Ab->(List Aa)->Option ((List Aa)×Ab))(L:Nat)(a1:List Aa)(n:Nat)(hl:a1.length<=maxLen)(hn:a1.length<n):∀(Aq:List Aa) (Hs:Yb) (S6:List Ai) (S7:List Ac) (C4:List Bf) (C5:List Ai) (J9:List Ap) (Ka:Yb) (Kb:List Ai) (Kc:List Ah) (Kd:List Ao) (Ke:List Ar) (Kf:List Yb) (Ct:List Yb) (Cu:List Yb) (Kg:List Yb) (B6:List Yb) (H3:List Al) (Gs:List Bt) (Dd:List Bg) (Gv:Int),Ep D6 Hb L a1 n Aq 0 Hs S6 S7 C4 C5 J9 Ka Kb Kc Kd Ke Kf Ct Cu Kg B6 H3 Gs Dd Gv=Dh D6 Hb L a1 a1 0 Aq Hs S6 S7 C4 C5 J9 Ka Kb Kc Kd Ke Kf Ct Cu Kg B6 H3 Gs Dd Gv:=lQ (λk i n=>∀(Aq:List Aa) (Hs:Yb) (S6:List Ai) (S7:List Ac) (C4:List Bf) (C5:List Ai) (J9:List Ap) (Ka:Yb) (Kb:List Ai) (Kc:List Ah) (Kd:List Ao) (Ke:List Ar) (Kf:List Yb) (Ct:List Yb) (Cu:List Yb) (Kg:List Yb) (B6:List Yb) (H3:List Al) (Gs:List Bt) (Dd:List Bg) (Gv:Int),Ep D6 Hb L a1 n Aq (i:Int) Hs S6 S7 C4 C5 J9 Ka Kb Kc Kd Ke Kf Ct Cu Kg B6 H3 Gs Dd Gv=Dh D6 Hb L a1 k i Aq Hs S6 S7 C4 C5 J9 Ka Kb Kc Kd Ke Kf Ct Cu Kg B6 H3 Gs Dd Gv) hl hn (λn i h Aq Hs S6 S7 C4 C5 J9 Ka Kb Kc Kd Ke Kf Ct Cu Kg B6 H3 Gs Dd Gv=>by simp only[Ep,Ld,Dh,I5 h,aN,aB,aC]) (λn i x k h hx ih Aq Hs S6 S7 C4 C5 J9 Ka Kb Kc Kd Ke Kf Ct Cu Kg B6 H3 Gs Dd Gv=>by simp only[Ep,Ld,Dh,I4 h,Ua h,hx,B2 h hl,ih,aN,aB,aC])
def Eu(L:Nat)(a1:Int)(a0:List Ae):List Ae->Nat->List Ae->Option (Nat×Int×List Ae)
 | [],i,Lv=>(some (0,((i:Int),Lv)))
 |x::k,i,Lv=>(Option.bind (bif ((Lv.getD (Int.toNat (i:Int)) default).Op == 4) then(some true)
 else(if(0<=(i:Int)) then(if((i:Int)<(a0.length:Int)) then(some ((Lv.getD (Int.toNat (i:Int)) default).Op == 5))else none)else none)) λb2=>
 (bif b2 then(Eu L a1 a0 k (i+1) (Lv.set (Int.toNat (i:Int)) (⟨(Lv.getD (Int.toNat (i:Int)) default).Op,(Bb ((Lv.getD (Int.toNat (i:Int)) default).A+a1)),(Lv.getD (Int.toNat (i:Int)) default).B,(Lv.getD (Int.toNat (i:Int)) default).C,((Lv.getD (Int.toNat (i:Int)) default).E),((Lv.getD (Int.toNat (i:Int)) default).F),(Lv.getD (Int.toNat (i:Int)) default).aS,((Lv.getD (Int.toNat (i:Int)) default).bR),(Lv.getD (Int.toNat (i:Int)) default).bZ⟩:Ae)))
 else(Eu L a1 a0 k (i+1) Lv)))
theorem Ace(L:Nat)(a1:Int)(a0:List Ae)(n:Nat)(hl:a0.length<=maxLen)(hn:a0.length<n):∀(Lv:List Ae),Ip L a1 a0 n 0 Lv=Eu L a1 a0 a0 0 Lv:=lQ (λk i n=>∀(Lv:List Ae),Ip L a1 a0 n (i:Int) Lv=Eu L a1 a0 k i Lv) hl hn (λn i h Lv=>by simp only[Ip,R5,Eu,I5 h,aN,aB,aC]) (λn i x k h hx ih Lv=>by simp only[Ip,R5,Eu,I4 h,Ua h,hx,B2 h hl,ih,aN,aB,aC])
def Da(Bx:Ab->(List Ad)->Option ((List Ae)×Ab))(Bz:Ab->Ad->Option ((List Ae)×Ab))(B1:Ab->Ad->Option ((List Ae)×Ab))(L:Nat)(a1:List Ad):List Ad->Nat->List Ae->Yb->List Ai->List Ac->List Bf->List Ai->List Ap->Yb->List Ai->List Ah->List Ao->List Ar->List Yb->List Yb->List Yb->List Yb->List Yb->List Al->List Bt->List Bg->Int->Option (Nat×List Ae×Int×Yb×List Ai×List Ac×List Bf×List Ai×List Ap×Yb×List Ai×List Ah×List Ao×List Ar×List Yb×List Yb×List Yb×List Yb×List Yb×List Al×List Bt×List Bg×Int)
 | [],i,Aq,Hs,S6,S7,C4,C5,J9,Ka,Kb,Kc,Kd,Ke,Kf,Ct,Cu,Kg,B6,H3,Gs,Dd,Gv=>(some (0,(Aq,(i:Int),Hs,S6,S7,C4,C5,J9,Ka,Kb,Kc,Kd,Ke,Kf,Ct,Cu,Kg,B6,H3,Gs,Dd,Gv)))
 |x::k,i,Aq,Hs,S6,S7,C4,C5,J9,Ka,Kb,Kc,Kd,Ke,Kf,Ct,Cu,Kg,B6,H3,Gs,Dd,Gv=>(Option.bind (Bz (⟨(⟨Hs,S6,S7,C4⟩:Ag),(⟨C5,J9,(⟨Ka,Kb,Kc,Kd,Ke,Kf,Ct,Cu,Kg,B6,H3,Gs,Dd⟩:Ac)⟩:Az),Gv⟩:Ab) x) λr1=>
 (Option.bind (F2 L r1.1 (Aq.length:Int)) λr2=>
 (if((Aq.length+r2.length)*256<=140737488355328) then(if(Aq.length+r2.length<=maxLen) then(Da Bx Bz B1 L a1 k (i+1) (Aq++r2) r1.2.bM.aG r1.2.bM.aJ r1.2.bM.aD r1.2.bM.bC r1.2.aF.aJ r1.2.aF.aL r1.2.aF.aI.aG r1.2.aF.aI.bG r1.2.aF.aI.aM r1.2.aF.aI.aO r1.2.aF.aI.bH r1.2.aF.aI.aX r1.2.aF.aI.aR r1.2.aF.aI.aT r1.2.aF.aI.bA r1.2.aF.aI.aU r1.2.aF.aI.aA r1.2.aF.aI.aZ r1.2.aF.aI.Laws r1.2.aW)else none)else none)))
theorem Afi(Bx:Ab->(List Ad)->Option ((List Ae)×Ab))(Bz:Ab->Ad->Option ((List Ae)×Ab))(B1:Ab->Ad->Option ((List Ae)×Ab))(L:Nat)(a1:List Ad)(n:Nat)(hl:a1.length<=maxLen)(hn:a1.length<n):∀(Aq:List Ae) (Hs:Yb) (S6:List Ai) (S7:List Ac) (C4:List Bf) (C5:List Ai) (J9:List Ap) (Ka:Yb) (Kb:List Ai) (Kc:List Ah) (Kd:List Ao) (Ke:List Ar) (Kf:List Yb) (Ct:List Yb) (Cu:List Yb) (Kg:List Yb) (B6:List Yb) (H3:List Al) (Gs:List Bt) (Dd:List Bg) (Gv:Int),F5 Bx Bz B1 L a1 n Aq 0 Hs S6 S7 C4 C5 J9 Ka Kb Kc Kd Ke Kf Ct Cu Kg B6 H3 Gs Dd Gv=Da Bx Bz B1 L a1 a1 0 Aq Hs S6 S7 C4 C5 J9 Ka Kb Kc Kd Ke Kf Ct Cu Kg B6 H3 Gs Dd Gv:=lQ (λk i n=>∀(Aq:List Ae) (Hs:Yb) (S6:List Ai) (S7:List Ac) (C4:List Bf) (C5:List Ai) (J9:List Ap) (Ka:Yb) (Kb:List Ai) (Kc:List Ah) (Kd:List Ao) (Ke:List Ar) (Kf:List Yb) (Ct:List Yb) (Cu:List Yb) (Kg:List Yb) (B6:List Yb) (H3:List Al) (Gs:List Bt) (Dd:List Bg) (Gv:Int),F5 Bx Bz B1 L a1 n Aq (i:Int) Hs S6 S7 C4 C5 J9 Ka Kb Kc Kd Ke Kf Ct Cu Kg B6 H3 Gs Dd Gv=Da Bx Bz B1 L a1 k i Aq Hs S6 S7 C4 C5 J9 Ka Kb Kc Kd Ke Kf Ct Cu Kg B6 H3 Gs Dd Gv) hl hn (λn i h Aq Hs S6 S7 C4 C5 J9 Ka Kb Kc Kd Ke Kf Ct Cu Kg B6 H3 Gs Dd Gv=>by simp only[F5,L1,Da,I5 h,aN,aB,aC]) (λn i x k h hx ih Aq Hs S6 S7 C4 C5 J9 Ka Kb Kc Kd Ke Kf Ct Cu Kg B6 H3 Gs Dd Gv=>by simp only[F5,L1,Da,I4 h,Ua h,hx,B2 h hl,ih,aN,aB,aC])
def Ii(Iz:(List Ad)->Option Int)(L:Nat)(a0:List Ad):List Ad->Nat->Int->Option (Nat×Int×Int)
 | [],i,Bl=>(some (0,(Bl,(i:Int))))
 |x::k,i,Bl=>(Option.bind (bif (x.Op == 4) then(some true)
 else(if(0<=(i:Int)) then(if((i:Int)<(a0.length:Int)) then(bif (x.Op == 3) then(if(0<=(i:Int)) then(if((i:Int)<(a0.length:Int)) then(some (decide ((x.aY.length:Int)>0)))else none)else none)
 else(some false))else none)else none)) λb1=>
 (bif b1 then(Option.bind (Iz (x.aK)) λr2=>
 (Option.bind (Iz (x.aY)) λr3=>
 (Ii Iz L a0 k (i+1) (Bb ((Bb ((Bb (Bl+1))+r2))+r3)))))
 else(Option.bind (Iz (x.aK)) λr4=>
 (Option.bind (Iz (x.aY)) λr5=>
 (Ii Iz L a0 k (i+1) (Bb ((Bb (Bl+r4))+r5)))))))
theorem Aqw(Iz:(List Ad)->Option Int)(L:Nat)(a0:List Ad)(n:Nat)(hl:a0.length<=maxLen)(hn:a0.length<n):∀(Bl:Int),Mc Iz L a0 n Bl 0=Ii Iz L a0 a0 0 Bl:=lQ (λk i n=>∀(Bl:Int),Mc Iz L a0 n Bl (i:Int)=Ii Iz L a0 k i Bl) hl hn (λn i h Bl=>by simp only[Mc,Wr,Ii,I5 h,aN,aB,aC]) (λn i x k h hx ih Bl=>by simp only[Mc,Wr,Ii,I4 h,Ua h,hx,B2 h hl,ih,aN,aB,aC])
end Go.Proofs.YtgacplpjamkieaaGreat.Ev
