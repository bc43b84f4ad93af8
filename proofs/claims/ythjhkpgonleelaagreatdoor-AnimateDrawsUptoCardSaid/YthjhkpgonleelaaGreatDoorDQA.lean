import Derived.Test.YthjhkpgonleelaaGreatDoorDG1
import Derived.Test.YthjhkpgonleelaaGreatDoorDFW
import Derived.Test.YthjhkpgonleelaaGreatDoorDG2
import Derived.Test.YthjhkpgonleelaaGreatDoorDG3
import Derived.Test.YthjhkpgonleelaaGreatDoorDG4
import Derived.Test.YthjhkpgonleelaaGreatDoorDG5
import Derived.Test.YthjhkpgonleelaaGreatDoorDG6
import Derived.Test.YthjhkpgonleelaaGreatDoorDG7
import Derived.Test.YthjhkpgonleelaaGreatDoorDG8
import Derived.Test.YthjhkpgonleelaaGreatDoorDG9
import Derived.Test.YthjhkpgonleelaaGreatDoorDG10
import Derived.Test.YthjhkpgonleelaaGreatDoorDGC
import Derived.Test.YthjhkpgonleelaaGreatDoorDG15
set_option maxRecDepth 100000
set_option maxHeartbeats 4000000
set_option linter.unusedVariables false
set_option linter.unusedSimpArgs false
set_option linter.unnecessarySimpa false
namespace Go.Proofs.YthjhkpgonleelaaGreatDoor.Ev
open Go An
theorem aC:(∀i:Nat,(0<=(i:Int))=True)/\(∀i:Nat,Int.toNat (i:Int)=i)/\(∀ {α :Type} (a b: α),cond true a b=a)/\(∀ {α :Type} (a b: α),cond false a b=b)/\(∀ {α :Type} (a b: α),(if True then a else b)=a)/\(∀h:Decidable True,@decide True h=true)/\(∀x:Ab,Ab.mk x.Op x.aF x.N x.aY=x)/\(∀x:Ab,Ab.cp x=x)/\(∀x:Ad,Ad.mk x.Op x.aF x.Of x.E x.F x.aP x.bF x.bY x.bE x.bN=x)/\(∀x:Ad,Ad.cp x=x):=⟨nn,toN,λ_ _=>rfl,λ_ _=>rfl,λ_ _=>if_true ..,decide_true,Ab.eta,Ab.cp_eq,Ad.eta,Ad.cp_eq⟩
def Ds(L:Nat)(a0:Ak):List Eu->Nat->Int->Option (Nat×Int×Int)
 | [],i,Ai=>(some (1,(Ai,(i:Int))))
 |x::k,i,Ai=>(Option.bind (Be L (x.At) 0 (Bs (a0.dA-1))) λr2=>
 (bif (!r2) then(bif (!r2) then(some (0,(2,(i:Int))))
 else(bif (decide ((i:Int)>0)) then(if(0<=(Bs ((i:Int)-1))) then(if((Bs ((i:Int)-1))<(a0.bA.length:Int)) then(bif (decide (x.At<=(a0.bA.getD (Int.toNat (Bs ((i:Int)-1))) default).At)) then(some (0,(12,(i:Int))))
 else(Ds L a0 k (i+1) Ai))else none)else none)
 else(Ds L a0 k (i+1) Ai)))
 else(Option.bind (Be L (x.Units) 0 1000) λr3=>
 (bif (!r3) then(some (0,(2,(i:Int))))
 else(bif (decide ((i:Int)>0)) then(if(0<=(Bs ((i:Int)-1))) then(if((Bs ((i:Int)-1))<(a0.bA.length:Int)) then(bif (decide (x.At<=(a0.bA.getD (Int.toNat (Bs ((i:Int)-1))) default).At)) then(some (0,(12,(i:Int))))
 else(Ds L a0 k (i+1) Ai))else none)else none)
 else(Ds L a0 k (i+1) Ai))))))
theorem Asc(L:Nat)(a0:Ak)(n:Nat)(hl:a0.bA.length<=maxLen)(hn:a0.bA.length<n):∀(Ai:Int),Hi L a0 n Ai 0=Ds L a0 a0.bA 0 Ai:=lQ (λk i n=>∀(Ai:Int),Hi L a0 n Ai (i:Int)=Ds L a0 k i Ai) hl hn (λn i h Ai=>by simp only[Hi,Qy,Ds,Dr h,aN,aB,aC]) (λn i x k h hx ih Ai=>by simp only[Hi,Qy,Ds,Dn h,Ll h,hx,Az h hl,ih,aN,aB,aC])
def F3(L:Nat)(a0:List Int)(a1:List Int):List Int->Nat->Bool->Option (Nat×Bool×Int)
 | [],i,Al=>(some (1,(Al,(i:Int))))
 |x::k,i,Al=>(if((i:Int)<(a1.length:Int)) then(bif (x != (a1.getD (Int.toNat (i:Int)) default)) then(some (0,(false,(i:Int))))
 else(F3 L a0 a1 k (i+1) Al))else none)
theorem Api(L:Nat)(a0:List Int)(a1:List Int)(n:Nat)(hl:a0.length<=maxLen)(hn:a0.length<n):∀(Al:Bool),F2 L a0 a1 n Al 0=F3 L a0 a1 a0 0 Al:=lQ (λk i n=>∀(Al:Bool),F2 L a0 a1 n Al (i:Int)=F3 L a0 a1 k i Al) hl hn (λn i h Al=>by simp only[F2,Nx,F3,Dr h,aN,aB,aC]) (λn i x k h hx ih Al=>by simp only[F2,Nx,F3,Dn h,Ll h,hx,Az h hl,ih,aN,aB,aC])
def D8(L:Nat)(a0:List Yb)(a1:Yb):List Yb->Nat->Int->Option (Nat×Int×Int)
 | [],i,Al=>(some (1,(Al,(i:Int))))
 |x::k,i,Al=>(bif (a1.toList == x.toList) then(some (0,((i:Int),(i:Int))))
 else(D8 L a0 a1 k (i+1) Al))
theorem Aj6(L:Nat)(a0:List Yb)(a1:Yb)(n:Nat)(hl:a0.length<=maxLen)(hn:a0.length<n):∀(Al:Int),D6 L a0 a1 n Al 0=D8 L a0 a1 a0 0 Al:=lQ (λk i n=>∀(Al:Int),D6 L a0 a1 n Al (i:Int)=D8 L a0 a1 k i Al) hl hn (λn i h Al=>by simp only[D6,Jv,D8,Dr h,aN,aB,aC]) (λn i x k h hx ih Al=>by simp only[D6,Jv,D8,Dn h,Ll h,hx,Az h hl,ih,aN,aB,aC])
def Jr(L:Nat)(p1_0:List Int)(p1_1:Int)(p1_2:Int):List Int->Nat->Int->Option (Nat×Int×Int)
 | [],i,Ag=>(some (1,(Ag,(i:Int))))
 |x::k,i,Ag=>((λb1=>
 (bif b1 then(some (0,((i:Int),(i:Int))))
 else(Jr L p1_0 p1_1 p1_2 k (i+1) Ag))) (bif (decide (x<p1_1))then true
 else(decide (x>p1_2))))
theorem Axd(L:Nat)(p1_0:List Int)(p1_1:Int)(p1_2:Int)(n:Nat)(hl:p1_0.length<=maxLen)(hn:p1_0.length<n):∀(Ag:Int),Jh L p1_0 p1_1 p1_2 n Ag 0=Jr L p1_0 p1_1 p1_2 p1_0 0 Ag:=lQ (λk i n=>∀(Ag:Int),Jh L p1_0 p1_1 p1_2 n Ag (i:Int)=Jr L p1_0 p1_1 p1_2 k i Ag) hl hn (λn i h Ag=>by simp only[Jh,Wg,Jr,Dr h,aN,aB,aC]) (λn i x k h hx ih Ag=>by simp only[Jh,Wg,Jr,Dn h,Ll h,hx,Az h hl,ih,aN,aB,aC])
def Dw(L:Nat)(a0:List (List Ba)):List ((List Ba))->Nat->Int->Option (Nat×Int×Int)
 | [],i,Al=>(some (0,(Al,(i:Int))))
 |x::k,i,Al=>(bif (decide ((Bs (Al+(x.length:Int)))<0))then none
 else(Dw L a0 k (i+1) (Bs (Al+(x.length:Int)))))
theorem Af2(L:Nat)(a0:List (List Ba))(n:Nat)(hl:a0.length<=maxLen)(hn:a0.length<n):∀(Al:Int),C8 L a0 n Al 0=Dw L a0 a0 0 Al:=lQ (λk i n=>∀(Al:Int),C8 L a0 n Al (i:Int)=Dw L a0 k i Al) hl hn (λn i h Al=>by simp only[C8,Hp,Dw,Dr h,aN,aB,aC]) (λn i x k h hx ih Al=>by simp only[C8,Hp,Dw,Dn h,Ll h,hx,Az h hl,ih,aN,aB,aC])
def Dx(L:Nat)(a0:List (List Ba)):List ((List Ba))->Nat->List Ba->Option (Nat×List Ba×Int)
 | [],i,Gi=>(some (0,(Gi,(i:Int))))
 |x::k,i,Gi=>(if((Gi.length+x.length)*24<=140737488355328) then(if(Gi.length+x.length<=maxLen) then(Dx L a0 k (i+1) (Gi++x))else none)else none)
theorem Af3(L:Nat)(a0:List (List Ba))(n:Nat)(hl:a0.length<=maxLen)(hn:a0.length<n):∀(Gi:List Ba),C9 L a0 n Gi 0=Dx L a0 a0 0 Gi:=lQ (λk i n=>∀(Gi:List Ba),C9 L a0 n Gi (i:Int)=Dx L a0 k i Gi) hl hn (λn i h Gi=>by simp only[C9,Hq,Dx,Dr h,aN,aB,aC]) (λn i x k h hx ih Gi=>by simp only[C9,Hq,Dx,Dn h,Ll h,hx,Az h hl,ih,aN,aB,aC])
def Ix(Gc:(List Ad)->Option Int)(L:Nat)(a0:List Ad):List Ad->Nat->Int->Option (Nat×Int×Int)
 | [],i,Ag=>(some (0,(Ag,(i:Int))))
 |x::k,i,Ag=>(Option.bind (Gc (x.bE)) λr1=>
 (Option.bind (Gc (x.bN)) λr2=>
 (Ix Gc L a0 k (i+1) (Bs (Ag+(Bs (r1+r2)))))))
theorem Azq(Gc:(List Ad)->Option Int)(L:Nat)(a0:List Ad)(n:Nat)(hl:a0.length<=maxLen)(hn:a0.length<n):∀(Ag:Int),K6 Gc L a0 n Ag 0=Ix Gc L a0 a0 0 Ag:=lQ (λk i n=>∀(Ag:Int),K6 Gc L a0 n Ag (i:Int)=Ix Gc L a0 k i Ag) hl hn (λn i h Ag=>by simp only[K6,Ys,Ix,Dr h,aN,aB,aC]) (λn i x k h hx ih Ag=>by simp only[K6,Ys,Ix,Dn h,Ll h,hx,Az h hl,ih,aN,aB,aC])
def Iy(Gd:(List Ad)->Option Int)(L:Nat)(a0:List Ad):List Ad->Nat->Int->Option (Nat×Int×Int)
 | [],i,Ag=>(some (0,(Ag,(i:Int))))
 |x::k,i,Ag=>(Option.bind (Gd (x.bE)) λr1=>
 (Option.bind (Gd (x.bN)) λr2=>
 (Iy Gd L a0 k (i+1) (if(Bs (1+r2))>(if(Bs (1+r1))>Ag then(Bs (1+r1))else Ag) then(Bs (1+r2)) else(if(Bs (1+r1))>Ag then(Bs (1+r1))else Ag)))))
theorem Azr(Gd:(List Ad)->Option Int)(L:Nat)(a0:List Ad)(n:Nat)(hl:a0.length<=maxLen)(hn:a0.length<n):∀(Ag:Int),K7 Gd L a0 n Ag 0=Iy Gd L a0 a0 0 Ag:=lQ (λk i n=>∀(Ag:Int),K7 Gd L a0 n Ag (i:Int)=Iy Gd L a0 k i Ag) hl hn (λn i h Ag=>by simp only[K7,Yt,Iy,Dr h,aN,aB,aC]) (λn i x k h hx ih Ag=>by simp only[K7,Yt,Iy,Dn h,Ll h,hx,Az h hl,ih,aN,aB,aC])
def Rq(F4:Ab->Ab->Option Bool)(L:Nat)(a0:Ab)(a1:Ab):List Ab->Nat->Bool->Option (Nat×Bool×Int)
 | [],i,Ai=>(some (1,(Ai,(i:Int))))
 |x::k,i,Ai=>(if((i:Int)<(a1.aY.length:Int)) then(Option.bind (F4 x (a1.aY.getD (Int.toNat (i:Int)) default)) λr4=>
 (bif (!r4) then(some (0,(false,(i:Int))))
 else(Rq F4 L a0 a1 k (i+1) Ai)))else none)
theorem A2t(F4:Ab->Ab->Option Bool)(L:Nat)(a0:Ab)(a1:Ab)(n:Nat)(hl:a0.aY.length<=maxLen)(hn:a0.aY.length<n):∀(Ai:Bool),Nn F4 L a0 a1 n Ai 0=Rq F4 L a0 a1 a0.aY 0 Ai:=lQ (λk i n=>∀(Ai:Bool),Nn F4 L a0 a1 n Ai (i:Int)=Rq F4 L a0 a1 k i Ai) hl hn (λn i h Ai=>by simp only[Nn,Aag,Rq,Dr h,aN,aB,aC]) (λn i x k h hx ih Ai=>by simp only[Nn,Aag,Rq,Dn h,Ll h,hx,Az h hl,ih,aN,aB,aC])
def Lh(He:Ab->Option Int)(L:Nat)(a0:Ab):List Ab->Nat->Int->Option (Nat×Int×Int)
 | [],i,Ag=>(some (0,(Ag,(i:Int))))
 |x::k,i,Ag=>(Option.bind (He x) λr1=>
 (Lh He L a0 k (i+1) (Bs (Ag+r1))))
theorem Aze(He:Ab->Option Int)(L:Nat)(a0:Ab)(n:Nat)(hl:a0.aY.length<=maxLen)(hn:a0.aY.length<n):∀(Ag:Int),Ku He L a0 n Ag 0=Lh He L a0 a0.aY 0 Ag:=lQ (λk i n=>∀(Ag:Int),Ku He L a0 n Ag (i:Int)=Lh He L a0 k i Ag) hl hn (λn i h Ag=>by simp only[Ku,Ym,Lh,Dr h,aN,aB,aC]) (λn i x k h hx ih Ag=>by simp only[Ku,Ym,Lh,Dn h,Ll h,hx,Az h hl,ih,aN,aB,aC])
def Lg(Hf:Ab->Option Int)(L:Nat)(a0:Ab):List Ab->Nat->Int->Option (Nat×Int×Int)
 | [],i,Ag=>(some (0,(Ag,(i:Int))))
 |x::k,i,Ag=>(Option.bind (Hf x) λr1=>
 (Lg Hf L a0 k (i+1) (if r1>Ag then r1 else Ag)))
theorem Azd(Hf:Ab->Option Int)(L:Nat)(a0:Ab)(n:Nat)(hl:a0.aY.length<=maxLen)(hn:a0.aY.length<n):∀(Ag:Int),Kt Hf L a0 n Ag 0=Lg Hf L a0 a0.aY 0 Ag:=lQ (λk i n=>∀(Ag:Int),Kt Hf L a0 n Ag (i:Int)=Lg Hf L a0 k i Ag) hl hn (λn i h Ag=>by simp only[Kt,Yl,Lg,Dr h,aN,aB,aC]) (λn i x k h hx ih Ag=>by simp only[Kt,Yl,Lg,Dn h,Ll h,hx,Az h hl,ih,aN,aB,aC])
def Ep(F5:Bm->Ab->Option Int)(L:Nat)(a1:Ab)(a0:Bm):List Ab->Nat->Int->Option (Nat×Int×Int)
 | [],i,Ai=>(some (1,(Ai,(i:Int))))
 |x::k,i,Ai=>(Option.bind (F5 (⟨a0.bW⟩:Bm) x) λr2=>
 (bif (r2 != 0) then(some (0,(r2,(i:Int))))
 else(Ep F5 L a1 a0 k (i+1) Ai)))
theorem Aqp(F5:Bm->Ab->Option Int)(L:Nat)(a1:Ab)(a0:Bm)(n:Nat)(hl:a1.aY.length<=maxLen)(hn:a1.aY.length<n):∀(Ai:Int),Gs F5 L a1 a0 n Ai 0=Ep F5 L a1 a0 a1.aY 0 Ai:=lQ (λk i n=>∀(Ai:Int),Gs F5 L a1 a0 n Ai (i:Int)=Ep F5 L a1 a0 k i Ai) hl hn (λn i h Ai=>by simp only[Gs,O5,Ep,Dr h,aN,aB,aC]) (λn i x k h hx ih Ai=>by simp only[Gs,O5,Ep,Dn h,Ll h,hx,Az h hl,ih,aN,aB,aC])
def Iz(L:Nat)(a0:Ad)(a1:Bt):List Ab->Nat->Int->Option (Nat×Int×Int)
 | [],i,D9=>(some (1,(D9,(i:Int))))
 |x::k,i,D9=>(Option.bind (Sk L x) λr6=>
 (bif (r6 != 0) then(some (0,(r6,(i:Int))))
 else(Iz L a0 a1 k (i+1) D9)))
theorem Azt(L:Nat)(a0:Ad)(a1:Bt)(n:Nat)(hl:a0.aP.length<=maxLen)(hn:a0.aP.length<n):∀(D9:Int),Lb L a0 a1 n D9 0=Iz L a0 a1 a0.aP 0 D9:=lQ (λk i n=>∀(D9:Int),Lb L a0 a1 n D9 (i:Int)=Iz L a0 a1 k i D9) hl hn (λn i h D9=>by simp only[Lb,Yv,Iz,Dr h,aN,aB,aC]) (λn i x k h hx ih D9=>by simp only[Lb,Yv,Iz,Dn h,Ll h,hx,Az h hl,ih,aN,aB,aC])
def Lk(Ge:(List Ad)->Option Int)(L:Nat)(a0:List Ad):List Ad->Nat->Int->Option (Nat×Int×Int)
 | [],i,Ai=>(some (1,(Ai,(i:Int))))
 |x::k,i,Ai=>(Option.bind (Afu L (x.Op)) λr1=>
 (Option.bind (bif (!r1.2) then(some true)
 else(Option.bind (Aft L x r1.1) λr3=>
 (some (!r3)))) λb2=>
 (bif b2 then(some (0,(1,(i:Int))))
 else(Option.bind (m7 L x r1.1) λr4=>
 (bif (r4 != 0) then(some (0,(r4,(i:Int))))
 else(Option.bind (Ge (x.bE)) λr5=>
 (bif (r5 != 0) then(some (0,(r5,(i:Int))))
 else(Option.bind (Ge (x.bN)) λr6=>
 (bif (r6 != 0) then(some (0,(r6,(i:Int))))
 else(Lk Ge L a0 k (i+1) Ai))))))))))
theorem Azs(Ge:(List Ad)->Option Int)(L:Nat)(a0:List Ad)(n:Nat)(hl:a0.length<=maxLen)(hn:a0.length<n):∀(Ai:Int),K8 Ge L a0 n Ai 0=Lk Ge L a0 a0 0 Ai:=lQ (λk i n=>∀(Ai:Int),K8 Ge L a0 n Ai (i:Int)=Lk Ge L a0 k i Ai) hl hn (λn i h Ai=>by simp only[K8,Yu,Lk,Dr h,aN,aB,aC]) (λn i x k h hx ih Ai=>by simp only[K8,Yu,Lk,Dn h,Ll h,hx,Az h hl,ih,aN,aB,aC])
def D7(L:Nat)(r2:List Ba)(a0:Am):List Ba->Nat->Int->List Yb->List Bool->Option (Nat×Int×Int×List Yb×List Bool)
 | [],i,Ai,Br,Eh=>(some (1,(Ai,(i:Int),Br,Eh)))
 |x::k,i,Ai,Br,Eh=>(Option.bind (I9 L (x.aF) a0 x Br Eh) λo7=>
 (bif (o7.1 != 0) then(some (0,(o7.1,(i:Int),o7.2.1,o7.2.2)))
 else(Option.bind (Ju L (x.bO)) λr8=>
 (bif (!r8) then(some (0,(1,(i:Int),o7.2.1,o7.2.2)))
 else(D7 L r2 a0 k (i+1) Ai o7.2.1 o7.2.2)))))
theorem Ati(L:Nat)(r2:List Ba)(a0:Am)(n:Nat)(hl:r2.length<=maxLen)(hn:r2.length<n):∀(Ai:Int) (Br:List Yb) (Eh:List Bool),Hy L r2 a0 n Ai 0 Br Eh=D7 L r2 a0 r2 0 Ai Br Eh:=lQ (λk i n=>∀(Ai:Int) (Br:List Yb) (Eh:List Bool),Hy L r2 a0 n Ai (i:Int) Br Eh=D7 L r2 a0 k i Ai Br Eh) hl hn (λn i h Ai Br Eh=>by simp only[Hy,Zx,S8,S3,D7,Dr h,aN,aB,aC]) (λn i x k h hx ih Ai Br Eh=>by simp only[Hy,Zx,S8,S3,D7,Dn h,Ll h,hx,Az h hl,ih,aN,aB,aC])
def Hz(L:Nat)(p1_0:List Am)(p1_1:Aa)(p1_2:Yb):List Am->Nat->Int->Option (Nat×Int×Int)
 | [],i,Ag=>(some (1,(Ag,(i:Int))))
 |x::k,i,Ag=>(bif (x.aF.toList == p1_2.toList) then(some (0,((i:Int),(i:Int))))
 else(Hz L p1_0 p1_1 p1_2 k (i+1) Ag))
theorem Ath(L:Nat)(p1_0:List Am)(p1_1:Aa)(p1_2:Yb)(n:Nat)(hl:p1_0.length<=maxLen)(hn:p1_0.length<n):∀(Ag:Int),Hx L p1_0 p1_1 p1_2 n Ag 0=Hz L p1_0 p1_1 p1_2 p1_0 0 Ag:=lQ (λk i n=>∀(Ag:Int),Hx L p1_0 p1_1 p1_2 n Ag (i:Int)=Hz L p1_0 p1_1 p1_2 k i Ag) hl hn (λn i h Ag=>by simp only[Hx,Su,Hz,Dr h,aN,aB,aC]) (λn i x k h hx ih Ag=>by simp only[Hx,Su,Hz,Dn h,Ll h,hx,Az h hl,ih,aN,aB,aC])
def H3(L:Nat)(a0:Aa)(r1:Int)(a1:Bv):List Int->Nat->Int->Option (Nat×Int×Int)
 | [],i,Ai=>(some (1,(Ai,(i:Int))))
 |x::k,i,Ai=>(if((i:Int)<((((a0.aD.getD (Int.toNat r1) default).aJ).length:Nat):Int)) then(Option.bind (Sl L ((((a0.aD.getD (Int.toNat r1) default).aJ).getD (Int.toNat (i:Int)) default).bO) x) λr2=>
 (bif (!r2) then(some (0,(2,(i:Int))))
 else(H3 L a0 r1 a1 k (i+1) Ai)))else none)
theorem Axh(L:Nat)(a0:Aa)(r1:Int)(a1:Bv)(n:Nat)(hl:a1.aP.length<=maxLen)(hn:a1.aP.length<n):∀(Ai:Int),Jl L a0 r1 a1 n Ai 0=H3 L a0 r1 a1 a1.aP 0 Ai:=lQ (λk i n=>∀(Ai:Int),Jl L a0 r1 a1 n Ai (i:Int)=H3 L a0 r1 a1 k i Ai) hl hn (λn i h Ai=>by simp only[Jl,Wh,H3,Dr h,aN,aB,aC]) (λn i x k h hx ih Ai=>by simp only[Jl,Wh,H3,Dn h,Ll h,hx,Az h hl,ih,aN,aB,aC])
def Lj(L:Nat)(p1_0:List Au)(p1_1:Aa)(p1_2:Bd):List Au->Nat->Int->Option (Nat×Int×Int)
 | [],i,Ag=>(some (1,(Ag,(i:Int))))
 |x::k,i,Ag=>(bif (x.aF.toList == p1_2.aF.toList) then(some (0,((i:Int),(i:Int))))
 else(Lj L p1_0 p1_1 p1_2 k (i+1) Ag))
theorem Azp(L:Nat)(p1_0:List Au)(p1_1:Aa)(p1_2:Bd)(n:Nat)(hl:p1_0.length<=maxLen)(hn:p1_0.length<n):∀(Ag:Int),K5 L p1_0 p1_1 p1_2 n Ag 0=Lj L p1_0 p1_1 p1_2 p1_0 0 Ag:=lQ (λk i n=>∀(Ag:Int),K5 L p1_0 p1_1 p1_2 n Ag (i:Int)=Lj L p1_0 p1_1 p1_2 k i Ag) hl hn (λn i h Ag=>by simp only[K5,Yr,Lj,Dr h,aN,aB,aC]) (λn i x k h hx ih Ag=>by simp only[K5,Yr,Lj,Dn h,Ll h,hx,Az h hl,ih,aN,aB,aC])
def Ob(L:Nat)(p11_0:List Bd)(p11_1:Aa)(p11_2:List Yb)(p11_3:List Bool)(p11_4:Bh)(p11_5:Bh):List Bd->Nat->Int->Option (Nat×Int×Int)
 | [],i,Bz=>(some (1,(Bz,(i:Int))))
 |x::k,i,Bz=>(Option.bind (V3 L p11_1 x) λr6=>
 (bif (r6 != 0) then(some (0,(r6,(i:Int))))
 else(Ob L p11_0 p11_1 p11_2 p11_3 p11_4 p11_5 k (i+1) Bz)))
theorem Azh(L:Nat)(p11_0:List Bd)(p11_1:Aa)(p11_2:List Yb)(p11_3:List Bool)(p11_4:Bh)(p11_5:Bh)(n:Nat)(hl:p11_0.length<=maxLen)(hn:p11_0.length<n):∀(Bz:Int),Kx L p11_0 p11_1 p11_2 p11_3 p11_4 p11_5 n Bz 0=Ob L p11_0 p11_1 p11_2 p11_3 p11_4 p11_5 p11_0 0 Bz:=lQ (λk i n=>∀(Bz:Int),Kx L p11_0 p11_1 p11_2 p11_3 p11_4 p11_5 n Bz (i:Int)=Ob L p11_0 p11_1 p11_2 p11_3 p11_4 p11_5 k i Bz) hl hn (λn i h Bz=>by simp only[Kx,Yp,Ob,Dr h,aN,aB,aC]) (λn i x k h hx ih Bz=>by simp only[Kx,Yp,Ob,Dn h,Ll h,hx,Az h hl,ih,aN,aB,aC])
def Oa(L:Nat)(p1_0:List Bh)(p1_1:Aa):List Bh->Nat->Int->List Yb->List Bool->Option (Nat×Int×Int×List Yb×List Bool)
 | [],i,Ai,Cp,Cq=>(some (1,(Ai,(i:Int),Cp,Cq)))
 |x::k,i,Ai,Cp,Cq=>(Option.bind (N9 L x p1_1 Cp Cq x) λo10=>
 (bif (o10.1 != 0) then(some (0,(o10.1,(i:Int),o10.2.1,o10.2.2)))
 else(Oa L p1_0 p1_1 k (i+1) Ai o10.2.1 o10.2.2)))
theorem Azg(L:Nat)(p1_0:List Bh)(p1_1:Aa)(n:Nat)(hl:p1_0.length<=maxLen)(hn:p1_0.length<n):∀(Ai:Int) (Cp:List Yb) (Cq:List Bool),Kw L p1_0 p1_1 n Ai 0 Cp Cq=Oa L p1_0 p1_1 p1_0 0 Ai Cp Cq:=lQ (λk i n=>∀(Ai:Int) (Cp:List Yb) (Cq:List Bool),Kw L p1_0 p1_1 n Ai (i:Int) Cp Cq=Oa L p1_0 p1_1 k i Ai Cp Cq) hl hn (λn i h Ai Cp Cq=>by simp only[Kw,Agt,Xe,Wv,Oa,Dr h,aN,aB,aC]) (λn i x k h hx ih Ai Cp Cq=>by simp only[Kw,Agt,Xe,Wv,Oa,Dn h,Ll h,hx,Az h hl,ih,aN,aB,aC])
def Oc(L:Nat)(p41_0:List Aw)(p41_1:Aa):List Aw->Nat->Int->List Yb->List Bool->Option (Nat×Int×Int×List Yb×List Bool)
 | [],i,Ai,Cp,Cq=>(some (1,(Ai,(i:Int),Cp,Cq)))
 |x::k,i,Ai,Cp,Cq=>(Option.bind (Mm L x p41_1 Cp Cq x) λo8=>
 (bif (o8.1 != 0) then(some (0,(o8.1,(i:Int),o8.2.1,o8.2.2)))
 else(Oc L p41_0 p41_1 k (i+1) Ai o8.2.1 o8.2.2)))
theorem Azi(L:Nat)(p41_0:List Aw)(p41_1:Aa)(n:Nat)(hl:p41_0.length<=maxLen)(hn:p41_0.length<n):∀(Ai:Int) (Cp:List Yb) (Cq:List Bool),Ky L p41_0 p41_1 n Ai 0 Cp Cq=Oc L p41_0 p41_1 p41_0 0 Ai Cp Cq:=lQ (λk i n=>∀(Ai:Int) (Cp:List Yb) (Cq:List Bool),Ky L p41_0 p41_1 n Ai (i:Int) Cp Cq=Oc L p41_0 p41_1 k i Ai Cp Cq) hl hn (λn i h Ai Cp Cq=>by simp only[Ky,Agu,Xg,Wz,Oc,Dr h,aN,aB,aC]) (λn i x k h hx ih Ai Cp Cq=>by simp only[Ky,Agu,Xg,Wz,Oc,Dn h,Ll h,hx,Az h hl,ih,aN,aB,aC])
def Od(L:Nat)(p48_0:List Ak)(p48_1:Aa):List Ak->Nat->Int->List Yb->List Bool->Option (Nat×Int×Int×List Yb×List Bool)
 | [],i,Bz,Rv,Rw=>(some (1,(Bz,(i:Int),Rv,Rw)))
 |x::k,i,Bz,Rv,Rw=>(Option.bind (Mn L x p48_1 Rv Rw x) λo19=>
 (bif (o19.1 != 0) then(some (0,(o19.1,(i:Int),o19.2.1,o19.2.2)))
 else(Od L p48_0 p48_1 k (i+1) Bz o19.2.1 o19.2.2)))
theorem Azj(L:Nat)(p48_0:List Ak)(p48_1:Aa)(n:Nat)(hl:p48_0.length<=maxLen)(hn:p48_0.length<n):∀(Bz:Int) (Rv:List Yb) (Rw:List Bool),Kz L p48_0 p48_1 n Bz 0 Rv Rw=Od L p48_0 p48_1 p48_0 0 Bz Rv Rw:=lQ (λk i n=>∀(Bz:Int) (Rv:List Yb) (Rw:List Bool),Kz L p48_0 p48_1 n Bz (i:Int) Rv Rw=Od L p48_0 p48_1 k i Bz Rv Rw) hl hn (λn i h Bz Rv Rw=>by simp only[Kz,Agv,Xh,W0,Od,Dr h,aN,aB,aC]) (λn i x k h hx ih Bz Rv Rw=>by simp only[Kz,Agv,Xh,W0,Od,Dn h,Ll h,hx,Az h hl,ih,aN,aB,aC])
def Oe(L:Nat)(p55_0:List Au)(p55_1:Aa):List Au->Nat->Int->List Yb->List Bool->Option (Nat×Int×Int×List Yb×List Bool)
 | [],i,D9,Fs,Rx=>(some (1,(D9,(i:Int),Fs,Rx)))
 |x::k,i,D9,Fs,Rx=>(Option.bind (Mo L x p55_1 Fs Rx x) λo29=>
 (bif (o29.1 != 0) then(some (0,(o29.1,(i:Int),o29.2.1,o29.2.2)))
 else(Oe L p55_0 p55_1 k (i+1) D9 o29.2.1 o29.2.2)))
theorem Azk(L:Nat)(p55_0:List Au)(p55_1:Aa)(n:Nat)(hl:p55_0.length<=maxLen)(hn:p55_0.length<n):∀(D9:Int) (Fs:List Yb) (Rx:List Bool),K0 L p55_0 p55_1 n D9 0 Fs Rx=Oe L p55_0 p55_1 p55_0 0 D9 Fs Rx:=lQ (λk i n=>∀(D9:Int) (Fs:List Yb) (Rx:List Bool),K0 L p55_0 p55_1 n D9 (i:Int) Fs Rx=Oe L p55_0 p55_1 k i D9 Fs Rx) hl hn (λn i h D9 Fs Rx=>by simp only[K0,Agw,Xi,W1,Oe,Dr h,aN,aB,aC]) (λn i x k h hx ih D9 Fs Rx=>by simp only[K0,Agw,Xi,W1,Oe,Dn h,Ll h,hx,Az h hl,ih,aN,aB,aC])
def Og(L:Nat)(p62_0:List Bg)(p62_1:Aa):List Bg->Nat->Int->List Yb->List Bool->Option (Nat×Int×Int×List Yb×List Bool)
 | [],i,Mu,Ry,F0=>(some (1,(Mu,(i:Int),Ry,F0)))
 |x::k,i,Mu,Ry,F0=>(Option.bind (Mp L x p62_1 Ry F0 x) λo40=>
 (bif (o40.1 != 0) then(some (0,(o40.1,(i:Int),o40.2.1,o40.2.2)))
 else(Og L p62_0 p62_1 k (i+1) Mu o40.2.1 o40.2.2)))
theorem Azl(L:Nat)(p62_0:List Bg)(p62_1:Aa)(n:Nat)(hl:p62_0.length<=maxLen)(hn:p62_0.length<n):∀(Mu:Int) (Ry:List Yb) (F0:List Bool),K1 L p62_0 p62_1 n Mu 0 Ry F0=Og L p62_0 p62_1 p62_0 0 Mu Ry F0:=lQ (λk i n=>∀(Mu:Int) (Ry:List Yb) (F0:List Bool),K1 L p62_0 p62_1 n Mu (i:Int) Ry F0=Og L p62_0 p62_1 k i Mu Ry F0) hl hn (λn i h Mu Ry F0=>by simp only[K1,Agx,Xj,W2,Og,Dr h,aN,aB,aC]) (λn i x k h hx ih Mu Ry F0=>by simp only[K1,Agx,Xj,W2,Og,Dn h,Ll h,hx,Az h hl,ih,aN,aB,aC])
def Oh(L:Nat)(p69_0:List Yb)(p69_1:Aa):List Yb->Nat->Int->List Yb->List Bool->Option (Nat×Int×Int×List Yb×List Bool)
 | [],i,Abr,Rz,R2=>(some (1,(Abr,(i:Int),Rz,R2)))
 |x::k,i,Abr,Rz,R2=>(Option.bind (Mq L x p69_1 Rz R2) λo47=>
 (bif (o47.1 != 0) then(some (0,(o47.1,(i:Int),o47.2.1,o47.2.2)))
 else(Oh L p69_0 p69_1 k (i+1) Abr o47.2.1 o47.2.2)))
theorem Azm(L:Nat)(p69_0:List Yb)(p69_1:Aa)(n:Nat)(hl:p69_0.length<=maxLen)(hn:p69_0.length<n):∀(Abr:Int) (Rz:List Yb) (R2:List Bool),K2 L p69_0 p69_1 n Abr 0 Rz R2=Oh L p69_0 p69_1 p69_0 0 Abr Rz R2:=lQ (λk i n=>∀(Abr:Int) (Rz:List Yb) (R2:List Bool),K2 L p69_0 p69_1 n Abr (i:Int) Rz R2=Oh L p69_0 p69_1 k i Abr Rz R2) hl hn (λn i h Abr Rz R2=>by simp only[K2,Agy,Xk,W3,Oh,Dr h,aN,aB,aC]) (λn i x k h hx ih Abr Rz R2=>by simp only[K2,Agy,Xk,W3,Oh,Dn h,Ll h,hx,Az h hl,ih,aN,aB,aC])
def Oi(L:Nat)(p72_0:List Am)(p72_1:Aa):List Am->Nat->Int->List Yb->List Bool->Option (Nat×Int×Int×List Yb×List Bool)
 | [],i,Abs,R3,R4=>(some (1,(Abs,(i:Int),R3,R4)))
 |x::k,i,Abs,R3,R4=>(Option.bind (Mr L x p72_1 R3 R4 x) λo60=>
 (bif (o60.1 != 0) then(some (0,(o60.1,(i:Int),o60.2.1,o60.2.2)))
 else(Oi L p72_0 p72_1 k (i+1) Abs o60.2.1 o60.2.2)))
theorem Azn(L:Nat)(p72_0:List Am)(p72_1:Aa)(n:Nat)(hl:p72_0.length<=maxLen)(hn:p72_0.length<n):∀(Abs:Int) (R3:List Yb) (R4:List Bool),K3 L p72_0 p72_1 n Abs 0 R3 R4=Oi L p72_0 p72_1 p72_0 0 Abs R3 R4:=lQ (λk i n=>∀(Abs:Int) (R3:List Yb) (R4:List Bool),K3 L p72_0 p72_1 n Abs (i:Int) R3 R4=Oi L p72_0 p72_1 k i Abs R3 R4) hl hn (λn i h Abs R3 R4=>by simp only[K3,Agz,U8,Uz,Oi,Dr h,aN,aB,aC]) (λn i x k h hx ih Abs R3 R4=>by simp only[K3,Agz,U8,Uz,Oi,Dn h,Ll h,hx,Az h hl,ih,aN,aB,aC])
def Oj(L:Nat)(p79_0:List Bv)(p79_1:Aa)(p79_2:List Yb)(p79_3:List Bool):List Bv->Nat->Int->Option (Nat×Int×Int)
 | [],i,Aqs=>(some (1,(Aqs,(i:Int))))
 |x::k,i,Aqs=>(Option.bind (Tr L p79_1 x) λr63=>
 (bif (r63 != 0) then(some (0,(r63,(i:Int))))
 else(Oj L p79_0 p79_1 p79_2 p79_3 k (i+1) Aqs)))
theorem Azo(L:Nat)(p79_0:List Bv)(p79_1:Aa)(p79_2:List Yb)(p79_3:List Bool)(n:Nat)(hl:p79_0.length<=maxLen)(hn:p79_0.length<n):∀(Aqs:Int),K4 L p79_0 p79_1 p79_2 p79_3 n Aqs 0=Oj L p79_0 p79_1 p79_2 p79_3 p79_0 0 Aqs:=lQ (λk i n=>∀(Aqs:Int),K4 L p79_0 p79_1 p79_2 p79_3 n Aqs (i:Int)=Oj L p79_0 p79_1 p79_2 p79_3 k i Aqs) hl hn (λn i h Aqs=>by simp only[K4,Yq,Oj,Dr h,aN,aB,aC]) (λn i x k h hx ih Aqs=>by simp only[K4,Yq,Oj,Dn h,Ll h,hx,Az h hl,ih,aN,aB,aC])
def Li(L:Nat)(p1_0:List Aa)(p1_1:Aj)(p1_2:Yb):List Aa->Nat->Int->Option (Nat×Int×Int)
 | [],i,Ag=>(some (1,(Ag,(i:Int))))
 |x::k,i,Ag=>(bif (x.aF.toList == p1_2.toList) then(some (0,((i:Int),(i:Int))))
 else(Li L p1_0 p1_1 p1_2 k (i+1) Ag))
theorem Azf(L:Nat)(p1_0:List Aa)(p1_1:Aj)(p1_2:Yb)(n:Nat)(hl:p1_0.length<=maxLen)(hn:p1_0.length<n):∀(Ag:Int),Kv L p1_0 p1_1 p1_2 n Ag 0=Li L p1_0 p1_1 p1_2 p1_0 0 Ag:=lQ (λk i n=>∀(Ag:Int),Kv L p1_0 p1_1 p1_2 n Ag (i:Int)=Li L p1_0 p1_1 p1_2 k i Ag) hl hn (λn i h Ag=>by simp only[Kv,Yn,Li,Dr h,aN,aB,aC]) (λn i x k h hx ih Ag=>by simp only[Kv,Yn,Li,Dn h,Ll h,hx,Az h hl,ih,aN,aB,aC])
def H2(L:Nat)(p1_0:List B9)(p1_1:Aj):List B9->Nat->Int->List Bp->List Bool->Option (Nat×Int×Int×List Bp×List Bool)
 | [],i,Ai,Br,Eh=>(some (1,(Ai,(i:Int),Br,Eh)))
 |x::k,i,Ai,Br,Eh=>(Option.bind (Rm L x p1_1 Br Eh x) λo8=>
 (bif (o8.1 != 0) then(some (0,(o8.1,(i:Int),o8.2.1,o8.2.2)))
 else(H2 L p1_0 p1_1 k (i+1) Ai o8.2.1 o8.2.2)))
theorem Axg(L:Nat)(p1_0:List B9)(p1_1:Aj)(n:Nat)(hl:p1_0.length<=maxLen)(hn:p1_0.length<n):∀(Ai:Int) (Br:List Bp) (Eh:List Bool),Jk L p1_0 p1_1 n Ai 0 Br Eh=H2 L p1_0 p1_1 p1_0 0 Ai Br Eh:=lQ (λk i n=>∀(Ai:Int) (Br:List Bp) (Eh:List Bool),Jk L p1_0 p1_1 n Ai (i:Int) Br Eh=H2 L p1_0 p1_1 k i Ai Br Eh) hl hn (λn i h Ai Br Eh=>by simp only[Jk,Ads,Xf,Wx,H2,Dr h,aN,aB,aC]) (λn i x k h hx ih Ai Br Eh=>by simp only[Jk,Ads,Xf,Wx,H2,Dn h,Ll h,hx,Az h hl,ih,aN,aB,aC])
def Ms(L:Nat)(p1_0:List Aw)(p1_1:Aj):List Aw->Nat->Int->List Yb->List Bool->Option (Nat×Int×Int×List Yb×List Bool)
 | [],i,Ai,Br,Eh=>(some (1,(Ai,(i:Int),Br,Eh)))
 |x::k,i,Ai,Br,Eh=>(Option.bind (Ml L x p1_1 Br Eh x) λo9=>
 (bif (o9.1 != 0) then(some (0,(o9.1,(i:Int),o9.2.1,o9.2.2)))
 else(Ms L p1_0 p1_1 k (i+1) Ai o9.2.1 o9.2.2)))
theorem Axe(L:Nat)(p1_0:List Aw)(p1_1:Aj)(n:Nat)(hl:p1_0.length<=maxLen)(hn:p1_0.length<n):∀(Ai:Int) (Br:List Yb) (Eh:List Bool),Ji L p1_0 p1_1 n Ai 0 Br Eh=Ms L p1_0 p1_1 p1_0 0 Ai Br Eh:=lQ (λk i n=>∀(Ai:Int) (Br:List Yb) (Eh:List Bool),Ji L p1_0 p1_1 n Ai (i:Int) Br Eh=Ms L p1_0 p1_1 k i Ai Br Eh) hl hn (λn i h Ai Br Eh=>by simp only[Ji,Adq,Xc,Wu,Ms,Dr h,aN,aB,aC]) (λn i x k h hx ih Ai Br Eh=>by simp only[Ji,Adq,Xc,Wu,Ms,Dn h,Ll h,hx,Az h hl,ih,aN,aB,aC])
def Mt(L:Nat)(p8_0:List Aa)(p8_1:Aj)(p8_2:List Yb)(p8_3:List Bool):List Aa->Nat->Int->List Yb->List Bool->Option (Nat×Int×Int×List Yb×List Bool)
 | [],i,Bz,Rt,Ru=>(some (1,(Bz,(i:Int),Rt,Ru)))
 |x::k,i,Bz,Rt,Ru=>(Option.bind (Kk L x p8_1 p8_2 p8_3 Rt Ru x) λo18=>
 (bif (o18.1 != 0) then(some (0,(o18.1,(i:Int),o18.2.1,o18.2.2)))
 else(Mt L p8_0 p8_1 p8_2 p8_3 k (i+1) Bz o18.2.1 o18.2.2)))
theorem Axf(L:Nat)(p8_0:List Aa)(p8_1:Aj)(p8_2:List Yb)(p8_3:List Bool)(n:Nat)(hl:p8_0.length<=maxLen)(hn:p8_0.length<n):∀(Bz:Int) (Rt:List Yb) (Ru:List Bool),Jj L p8_0 p8_1 p8_2 p8_3 n Bz 0 Rt Ru=Mt L p8_0 p8_1 p8_2 p8_3 p8_0 0 Bz Rt Ru:=lQ (λk i n=>∀(Bz:Int) (Rt:List Yb) (Ru:List Bool),Jj L p8_0 p8_1 p8_2 p8_3 n Bz (i:Int) Rt Ru=Mt L p8_0 p8_1 p8_2 p8_3 k i Bz Rt Ru) hl hn (λn i h Bz Rt Ru=>by simp only[Jj,Adr,U6,Ux,Mt,Dr h,aN,aB,aC]) (λn i x k h hx ih Bz Rt Ru=>by simp only[Jj,Adr,U6,Ux,Mt,Dn h,Ll h,hx,Az h hl,ih,aN,aB,aC])
def Jq(L:Nat)(p1_1:List Am)(p1_0:List Aq)(p1_2:A9):List Aq->Nat->Bool->Option (Nat×Bool×Int)
 | [],i,Ag=>(some (1,(Ag,(i:Int))))
 |x::k,i,Ag=>(if((i:Int)<(p1_1.length:Int)) then((λb1=>
 ((λb2=>
 (bif (!b2) then(some (0,(false,(i:Int))))
 else(Jq L p1_1 p1_0 p1_2 k (i+1) Ag))) (bif b1 then((((p1_1.getD (Int.toNat (i:Int)) default).bE).length:Int) == 0)
 else false))) (bif (x.aF.toList == ((p1_1.getD (Int.toNat (i:Int)) default).aF).toList) then(x.aJ == (((p1_1.getD (Int.toNat (i:Int)) default).aJ).length:Int))
 else false))else none)
theorem Axc(L:Nat)(p1_1:List Am)(p1_0:List Aq)(p1_2:A9)(n:Nat)(hl:p1_0.length<=maxLen)(hn:p1_0.length<n):∀(Ag:Bool),Jg L p1_1 p1_0 p1_2 n Ag 0=Jq L p1_1 p1_0 p1_2 p1_0 0 Ag:=lQ (λk i n=>∀(Ag:Bool),Jg L p1_1 p1_0 p1_2 n Ag (i:Int)=Jq L p1_1 p1_0 p1_2 k i Ag) hl hn (λn i h Ag=>by simp only[Jg,Wf,Jq,Dr h,aN,aB,aC]) (λn i x k h hx ih Ag=>by simp only[Jg,Wf,Jq,Dn h,Ll h,hx,Az h hl,ih,aN,aB,aC])
def Dq(L:Nat)(a0:Ac):List Dt->Nat->Int->List Ec->List Bool->Option (Nat×Int×Int×List Ec×List Bool)
 | [],i,Ai,Dg,Br=>(some (1,(Ai,(i:Int),Dg,Br)))
 |x::k,i,Ai,Dg,Br=>((λb1=>
 ((λb2=>
 (bif b2 then(bif b2 then(some (0,(2,(i:Int),Dg,Br)))
 else(fko (Dg.findIdx? λb=>(x.aV == b.a0 && (x.To == b.a1))) (λi3=>(bif (Br.getD i3 default) then(some (0,(4,(i:Int),Dg,Br)))
 else(fko (Dg.findIdx? λb=>(x.aV == b.a0 && (x.To == b.a1))) (λi4=>(Dq L a0 k (i+1) Ai Dg (Br.set i4 true))) (Dq L a0 k (i+1) Ai (Dg++ [(⟨x.aV,x.To⟩:Ec)]) (Br++ [true]))))) (fko (Dg.findIdx? λb=>(x.aV == b.a0 && (x.To == b.a1))) (λi5=>(Dq L a0 k (i+1) Ai Dg (Br.set i5 true))) (Dq L a0 k (i+1) Ai (Dg++ [(⟨x.aV,x.To⟩:Ec)]) (Br++ [true])))))
 else((λb6=>
 (bif b6 then(some (0,(2,(i:Int),Dg,Br)))
 else(fko (Dg.findIdx? λb=>(x.aV == b.a0 && (x.To == b.a1))) (λi7=>(bif (Br.getD i7 default) then(some (0,(4,(i:Int),Dg,Br)))
 else(fko (Dg.findIdx? λb=>(x.aV == b.a0 && (x.To == b.a1))) (λi8=>(Dq L a0 k (i+1) Ai Dg (Br.set i8 true))) (Dq L a0 k (i+1) Ai (Dg++ [(⟨x.aV,x.To⟩:Ec)]) (Br++ [true]))))) (fko (Dg.findIdx? λb=>(x.aV == b.a0 && (x.To == b.a1))) (λi9=>(Dq L a0 k (i+1) Ai Dg (Br.set i9 true))) (Dq L a0 k (i+1) Ai (Dg++ [(⟨x.aV,x.To⟩:Ec)]) (Br++ [true])))))) (bif (decide (x.bU<1))then true
 else(decide (x.bU>1000000000)))))) (bif b1 then true
 else(x.aV == x.To)))) (bif (decide ((if x.To<x.aV then x.To else x.aV)<0))then true
 else(decide ((if x.To>x.aV then x.To else x.aV)>=(a0.aA.length:Int)))))
theorem A2s(L:Nat)(a0:Ac)(n:Nat)(hl:a0.aH.length<=maxLen)(hn:a0.aH.length<n):∀(Ai:Int) (Dg:List Ec) (Br:List Bool),Nm L a0 n Ai 0 Dg Br=Dq L a0 a0.aH 0 Ai Dg Br:=lQ (λk i n=>∀(Ai:Int) (Dg:List Ec) (Br:List Bool),Nm L a0 n Ai (i:Int) Dg Br=Dq L a0 k i Ai Dg Br) hl hn (λn i h Ai Dg Br=>by simp only[Nm,Aaf,Dq,Dr h,aN,aB,aC]) (λn i x k h hx ih Ai Dg Br=>by simp only[Nm,Aaf,Dq,Dn h,Ll h,hx,Az h hl,ih,aN,aB,aC])
def Qo(L:Nat)(p1_0:List Dt)(p1_1:Ac)(p1_2:Int)(p1_3:Int):List Dt->Nat->Int->Option (Nat×Int×Int)
 | [],i,Ag=>(some (1,(Ag,(i:Int))))
 |x::k,i,Ag=>((λb1=>
 (bif b1 then(some (0,((i:Int),(i:Int))))
 else(Qo L p1_0 p1_1 p1_2 p1_3 k (i+1) Ag))) (bif (x.aV == p1_2) then(x.To == p1_3)
 else false))
theorem A5u(L:Nat)(p1_0:List Dt)(p1_1:Ac)(p1_2:Int)(p1_3:Int)(n:Nat)(hl:p1_0.length<=maxLen)(hn:p1_0.length<n):∀(Ag:Int),Qj L p1_0 p1_1 p1_2 p1_3 n Ag 0=Qo L p1_0 p1_1 p1_2 p1_3 p1_0 0 Ag:=lQ (λk i n=>∀(Ag:Int),Qj L p1_0 p1_1 p1_2 p1_3 n Ag (i:Int)=Qo L p1_0 p1_1 p1_2 p1_3 k i Ag) hl hn (λn i h Ag=>by simp only[Qj,Aez,Qo,Dr h,aN,aB,aC]) (λn i x k h hx ih Ag=>by simp only[Qj,Aez,Qo,Dn h,Ll h,hx,Az h hl,ih,aN,aB,aC])
def Eo(Bn:Av->Ab->Option Bool)(L:Nat)(p1_0:List Ab)(p1_1:Av)(p1_2:Ab):List Ab->Nat->Int->Option (Nat×Int×Int)
 | [],i,Ag=>(some (1,(Ag,(i:Int))))
 |x::k,i,Ag=>(Option.bind (Bn (⟨(⟨p1_1.bM.aF,p1_1.bM.aA,p1_1.bM.aH⟩:Ac),p1_1.aS,p1_1.u_c⟩:Av) x) λr2=>
 (bif (!r2) then(some (0,((i:Int),(i:Int))))
 else(Eo Bn L p1_0 p1_1 p1_2 k (i+1) Ag)))
theorem Aqo(Bn:Av->Ab->Option Bool)(L:Nat)(p1_0:List Ab)(p1_1:Av)(p1_2:Ab)(n:Nat)(hl:p1_0.length<=maxLen)(hn:p1_0.length<n):∀(Ag:Int),Gq Bn L p1_0 p1_1 p1_2 n Ag 0=Eo Bn L p1_0 p1_1 p1_2 p1_0 0 Ag:=lQ (λk i n=>∀(Ag:Int),Gq Bn L p1_0 p1_1 p1_2 n Ag (i:Int)=Eo Bn L p1_0 p1_1 p1_2 k i Ag) hl hn (λn i h Ag=>by simp only[Gq,O3,Eo,Dr h,aN,aB,aC]) (λn i x k h hx ih Ag=>by simp only[Gq,O3,Eo,Dn h,Ll h,hx,Az h hl,ih,aN,aB,aC])
def Ea(L:Nat)(r9:List Ab)(a0:Av)(a1:Ar):List Ab->Nat->Int->Option (Nat×Int×Int)
 | [],i,Ai=>(some (1,(Ai,(i:Int))))
 |x::k,i,Ai=>(Option.bind (I7 L x) λr10=>
 (bif (r10 != 0) then(some (0,(r10,(i:Int))))
 else(Option.bind (C5 L (⟨(⟨a0.bM.aF,a0.bM.aA,a0.bM.aH⟩:Ac),a0.aS,a0.u_c⟩:Av) x) λr11=>
 (bif (!r11) then(some (0,(2,(i:Int))))
 else(Ea L r9 a0 a1 k (i+1) Ai)))))
theorem Aph(L:Nat)(r9:List Ab)(a0:Av)(a1:Ar)(n:Nat)(hl:r9.length<=maxLen)(hn:r9.length<n):∀(Ai:Int),Cx L r9 a0 a1 n Ai 0=Ea L r9 a0 a1 r9 0 Ai:=lQ (λk i n=>∀(Ai:Int),Cx L r9 a0 a1 n Ai (i:Int)=Ea L r9 a0 a1 k i Ai) hl hn (λn i h Ai=>by simp only[Cx,Nw,Ea,Dr h,aN,aB,aC]) (λn i x k h hx ih Ai=>by simp only[Cx,Nw,Ea,Dn h,Ll h,hx,Az h hl,ih,aN,aB,aC])
def Iq(L:Nat)(a2:Aq)(a0:Ac)(a1:Int):List Ar->Nat->Int->Option (Nat×Int×Int)
 | [],i,Ai=>(some (1,(Ai,(i:Int))))
 |x::k,i,Ai=>(Option.bind (I6 L (⟨(⟨a0.aF,a0.aA,a0.aH⟩:Ac),a1,a2⟩:Av) (⟨x.Op,x.A,x.B,x.C,(x.E),(x.F),x.aP,(x.bF),x.bY⟩:Ar)) λr6=>
 (bif (r6 != 0) then(some (0,(r6,(i:Int))))
 else(Iq L a2 a0 a1 k (i+1) Ai)))
theorem Avd(L:Nat)(a2:Aq)(a0:Ac)(a1:Int)(n:Nat)(hl:a2.aR.length<=maxLen)(hn:a2.aR.length<n):∀(Ai:Int),Il L a2 a0 a1 n Ai 0=Iq L a2 a0 a1 a2.aR 0 Ai:=lQ (λk i n=>∀(Ai:Int),Il L a2 a0 a1 n Ai (i:Int)=Iq L a2 a0 a1 k i Ai) hl hn (λn i h Ai=>by simp only[Il,Ul,Iq,Dr h,aN,aB,aC]) (λn i x k h hx ih Ai=>by simp only[Il,Ul,Iq,Dn h,Ll h,hx,Az h hl,ih,aN,aB,aC])
def Ez(L:Nat)(a0:Ac):List A9->Nat->Int->List Yb->List Bool->Option (Nat×Int×Int×List Yb×List Bool)
 | [],i,Ai,Dg,Br=>(some (1,(Ai,(i:Int),Dg,Br)))
 |x::k,i,Ai,Dg,Br=>(Option.bind (Tq L (⟨a0.aF,[],[(x.aL)],[]⟩:Aj)) λr2=>
 (bif (r2 != 0) then(some (0,(r2,(i:Int),Dg,Br)))
 else(fko (Dg.findIdx? λb=>x.aL.aF == b) (λi3=>(bif (Br.getD i3 default) then(some (0,(4,(i:Int),Dg,Br)))
 else(Option.bind (L5 L (⟨(x.aL),x.aD⟩:A9)) λr4=>
 (bif (!r4) then(some (0,(8,(i:Int),Dg,Br)))
 else(fko (Dg.findIdx? λb=>x.aL.aF == b) (λi5=>(Ez L a0 k (i+1) Ai Dg (Br.set i5 true))) (Ez L a0 k (i+1) Ai (Dg++ [x.aL.aF]) (Br++ [true]))))))) (Option.bind (L5 L (⟨(x.aL),x.aD⟩:A9)) λr6=>
 (bif (!r6) then(some (0,(8,(i:Int),Dg,Br)))
 else(fko (Dg.findIdx? λb=>x.aL.aF == b) (λi7=>(Ez L a0 k (i+1) Ai Dg (Br.set i7 true))) (Ez L a0 k (i+1) Ai (Dg++ [x.aL.aF]) (Br++ [true]))))))))
theorem Aza(L:Nat)(a0:Ac)(n:Nat)(hl:a0.aA.length<=maxLen)(hn:a0.aA.length<n):∀(Ai:Int) (Dg:List Yb) (Br:List Bool),Kr L a0 n Ai 0 Dg Br=Ez L a0 a0.aA 0 Ai Dg Br:=lQ (λk i n=>∀(Ai:Int) (Dg:List Yb) (Br:List Bool),Kr L a0 n Ai (i:Int) Dg Br=Ez L a0 k i Ai Dg Br) hl hn (λn i h Ai Dg Br=>by simp only[Kr,Yj,Ez,Dr h,aN,aB,aC]) (λn i x k h hx ih Ai Dg Br=>by simp only[Kr,Yj,Ez,Dn h,Ll h,hx,Az h hl,ih,aN,aB,aC])
def Lf(L:Nat)(Bq:Int)(a0:Ac)(o8:Nat×Int×Int×List Yb×List Bool):List Aq->Nat->Int->Option (Nat×Int×Int)
 | [],i,D9=>(some (1,(D9,(i:Int))))
 |x::k,i,D9=>(Option.bind (Rc L (⟨a0.aF,a0.aA,a0.aH⟩:Ac) Bq x) λr10=>
 (bif (r10 != 0) then(some (0,(r10,(i:Int))))
 else(Lf L Bq a0 o8 k (i+1) D9)))
theorem Azc(L:Nat)(Bq:Int)(a0:Ac)(o8:Nat×Int×Int×List Yb×List Bool)(n:Nat)(hl:((a0.aA.getD (Int.toNat Bq) default).aD).length<=maxLen)(hn:((a0.aA.getD (Int.toNat Bq) default).aD).length<n):∀(D9:Int),Iw L Bq a0 o8 n D9 0=Lf L Bq a0 o8 ((a0.aA.getD (Int.toNat Bq) default).aD) 0 D9:=lQ (λk i n=>∀(D9:Int),Iw L Bq a0 o8 n D9 (i:Int)=Lf L Bq a0 o8 k i D9) hl hn (λn i h D9=>by simp only[Iw,Yk,Lf,Dr h,aN,aB,aC]) (λn i x k h hx ih D9=>by simp only[Iw,Yk,Lf,Dn h,Ll h,hx,Az h hl,ih,aN,aB,aC])
def Lc(L:Nat)(a0:Ac)(o8:Nat×Int×Int×List Yb×List Bool):List A9->Nat->Int->Option (Nat×Int×Int)
 | [],i,Bz=>(some (1,(Bz,(i:Int))))
 |x::k,i,Bz=>(Option.bind (Iw L (i:Int) a0 o8 L Bz 0) λo11=>
 (Apw o11.1 [(some (0,(o11.2.1,(i:Int)))),(Lc L a0 o8 k (i+1) o11.2.1)]))
theorem Azb(L:Nat)(a0:Ac)(o8:Nat×Int×Int×List Yb×List Bool)(n:Nat)(hl:a0.aA.length<=maxLen)(hn:a0.aA.length<n):∀(Bz:Int),Ks L a0 o8 n Bz 0=Lc L a0 o8 a0.aA 0 Bz:=lQ (λk i n=>∀(Bz:Int),Ks L a0 o8 n Bz (i:Int)=Lc L a0 o8 k i Bz) hl hn (λn i h Bz=>by simp only[Ks,Ags,Zf,Yy,Lc,Dr h,aN,aB,aC]) (λn i x k h hx ih Bz=>by simp only[Ks,Ags,Zf,Yy,Lc,Dn h,Ll h,hx,Az h hl,ih,aN,aB,aC])
def D1(L:Nat)(a2:Int)(a3:Int)(a1:List Ap)(a0:Ac):List Ap->Nat->List Ah->List Bool->List Int->List Int->List Int->Option (Nat×Int×List Ah×List Bool×List Int×List Int×List Int)
 | [],i,Pv,Pw,Px,D3,Py=>(some (0,((i:Int),Pv,Pw,Px,D3,Py)))
 |x::k,i,Pv,Pw,Px,D3,Py=>((λb1=>
 (bif b1 then(Option.bind (H1 L x x Pv Pw a3 a2 (Int.toNat (((a0.aA.getD (Int.toNat a2) default).aD).length:Int)) (Int.toNat ((((a0.aA.getD (Int.toNat a2) default).aL).aG).length:Int)) (Int.toNat ((((a0.aA.getD (Int.toNat a2) default).aL).aG).length:Int)) (Int.toNat ((((a0.aA.getD (Int.toNat a2) default).aL).aM).length:Int)) Px D3 (List.replicate (Int.toNat ((((a0.aA.getD (Int.toNat a2) default).aL).aG).length:Int)) 0) Py) λo30=>
 (D1 L a2 a3 a1 a0 k (i+1) o30.1 o30.2.1 o30.2.2.1 o30.2.2.2.1 o30.2.2.2.2))
 else(D1 L a2 a3 a1 a0 k (i+1) Pv Pw Px D3 Py))) (bif (x.bT == a2) then(decide (x.Time<=a3))
 else false))
theorem Aqn(L:Nat)(a2:Int)(a3:Int)(a1:List Ap)(a0:Ac)(n:Nat)(hl:a1.length<=maxLen)(hn:a1.length<n):∀(Pv:List Ah) (Pw:List Bool) (Px:List Int) (D3:List Int) (Py:List Int),Gp L a2 a3 a1 a0 n 0 Pv Pw Px D3 Py=D1 L a2 a3 a1 a0 a1 0 Pv Pw Px D3 Py:=lQ (λk i n=>∀(Pv:List Ah) (Pw:List Bool) (Px:List Int) (D3:List Int) (Py:List Int),Gp L a2 a3 a1 a0 n (i:Int) Pv Pw Px D3 Py=D1 L a2 a3 a1 a0 k i Pv Pw Px D3 Py) hl hn (λn i h Pv Pw Px D3 Py=>by simp only[Gp,Vs,N3,N1,D1,Dr h,aN,aB,aC]) (λn i x k h hx ih Pv Pw Px D3 Py=>by simp only[Gp,Vs,N3,N1,D1,Dn h,Ll h,hx,Az h hl,ih,aN,aB,aC])
def Qk(L:Nat)(a0:List Yb)(a1:Yb):List Yb->Nat->Int->Option (Nat×Int×Int)
 | [],i,Al=>(some (1,(Al,(i:Int))))
 |x::k,i,Al=>(bif (x.toList == a1.toList) then(some (0,((i:Int),(i:Int))))
 else(Qk L a0 a1 k (i+1) Al))
theorem A5j(L:Nat)(a0:List Yb)(a1:Yb)(n:Nat)(hl:a0.length<=maxLen)(hn:a0.length<n):∀(Al:Int),Qa L a0 a1 n Al 0=Qk L a0 a1 a0 0 Al:=lQ (λk i n=>∀(Al:Int),Qa L a0 a1 n Al (i:Int)=Qk L a0 a1 k i Al) hl hn (λn i h Al=>by simp only[Qa,Aeo,Qk,Dr h,aN,aB,aC]) (λn i x k h hx ih Al=>by simp only[Qa,Aeo,Qk,Dn h,Ll h,hx,Az h hl,ih,aN,aB,aC])
def J8(L:Nat)(a0:Aa):List Aw->Nat->List Yb->Option (Nat×Int×List Yb)
 | [],i,Xq=>(some (0,((i:Int),Xq)))
 |x::k,i,Xq=>(if((0:Int)<=0) then(if(0<((10:Nat):Int)) then(if((Xq.length+ [x.aF].length)*16<=140737488355328) then(if(Xq.length+ [x.aF].length<=maxLen) then(if((0:Int)<=0) then(if(0<((10:Nat):Int)) then(J8 L a0 k (i+1) (Xq++ [x.aF]))else none)else none)else none)else none)else none)else none)
theorem A2i(L:Nat)(a0:Aa)(n:Nat)(hl:a0.bX.length<=maxLen)(hn:a0.bX.length<n):∀(Xq:List Yb),Nb L a0 n 0 Xq=J8 L a0 a0.bX 0 Xq:=lQ (λk i n=>∀(Xq:List Yb),Nb L a0 n (i:Int) Xq=J8 L a0 k i Xq) hl hn (λn i h Xq=>by simp only[Nb,x9,J8,Dr h,aN,aB,aC]) (λn i x k h hx ih Xq=>by simp only[Nb,x9,J8,Dn h,Ll h,hx,Az h hl,ih,aN,aB,aC])
def J9(L:Nat)(a0:Aa)(o1:Nat×Int×List Yb):List Ak->Nat->List Yb->Option (Nat×Int×List Yb)
 | [],i,Xr=>(some (0,((i:Int),Xr)))
 |x::k,i,Xr=>(if((0:Int)<=1) then(if(1<((10:Nat):Int)) then(if((Xr.length+ [x.aF].length)*16<=140737488355328) then(if(Xr.length+ [x.aF].length<=maxLen) then(if((0:Int)<=1) then(if(1<((10:Nat):Int)) then(J9 L a0 o1 k (i+1) (Xr++ [x.aF]))else none)else none)else none)else none)else none)else none)
theorem A2j(L:Nat)(a0:Aa)(o1:Nat×Int×List Yb)(n:Nat)(hl:a0.aG.length<=maxLen)(hn:a0.aG.length<n):∀(Xr:List Yb),Nc L a0 o1 n 0 Xr=J9 L a0 o1 a0.aG 0 Xr:=lQ (λk i n=>∀(Xr:List Yb),Nc L a0 o1 n (i:Int) Xr=J9 L a0 o1 k i Xr) hl hn (λn i h Xr=>by simp only[Nc,y9,J9,Dr h,aN,aB,aC]) (λn i x k h hx ih Xr=>by simp only[Nc,y9,J9,Dn h,Ll h,hx,Az h hl,ih,aN,aB,aC])
def Ka(L:Nat)(a0:Aa)(o1:Nat×Int×List Yb)(o2:Nat×Int×List Yb):List Au->Nat->List Yb->Option (Nat×Int×List Yb)
 | [],i,Fs=>(some (0,((i:Int),Fs)))
 |x::k,i,Fs=>(if((0:Int)<=2) then(if(2<((10:Nat):Int)) then(if((Fs.length+ [x.aF].length)*16<=140737488355328) then(if(Fs.length+ [x.aF].length<=maxLen) then(if((0:Int)<=2) then(if(2<((10:Nat):Int)) then(Ka L a0 o1 o2 k (i+1) (Fs++ [x.aF]))else none)else none)else none)else none)else none)else none)
theorem A2k(L:Nat)(a0:Aa)(o1:Nat×Int×List Yb)(o2:Nat×Int×List Yb)(n:Nat)(hl:a0.aM.length<=maxLen)(hn:a0.aM.length<n):∀(Fs:List Yb),Nd L a0 o1 o2 n 0 Fs=Ka L a0 o1 o2 a0.aM 0 Fs:=lQ (λk i n=>∀(Fs:List Yb),Nd L a0 o1 o2 n (i:Int) Fs=Ka L a0 o1 o2 k i Fs) hl hn (λn i h Fs=>by simp only[Nd,z6,Ka,Dr h,aN,aB,aC]) (λn i x k h hx ih Fs=>by simp only[Nd,z6,Ka,Dn h,Ll h,hx,Az h hl,ih,aN,aB,aC])
def Kb(L:Nat)(a0:Aa)(o1:Nat×Int×List Yb)(o2:Nat×Int×List Yb)(o3:Nat×Int×List Yb):List Bg->Nat->List Yb->Option (Nat×Int×List Yb)
 | [],i,F0=>(some (0,((i:Int),F0)))
 |x::k,i,F0=>(if((0:Int)<=3) then(if(3<((10:Nat):Int)) then(if((F0.length+ [x.aF].length)*16<=140737488355328) then(if(F0.length+ [x.aF].length<=maxLen) then(if((0:Int)<=3) then(if(3<((10:Nat):Int)) then(Kb L a0 o1 o2 o3 k (i+1) (F0++ [x.aF]))else none)else none)else none)else none)else none)else none)
theorem A2l(L:Nat)(a0:Aa)(o1:Nat×Int×List Yb)(o2:Nat×Int×List Yb)(o3:Nat×Int×List Yb)(n:Nat)(hl:a0.bL.length<=maxLen)(hn:a0.bL.length<n):∀(F0:List Yb),Nf L a0 o1 o2 o3 n 0 F0=Kb L a0 o1 o2 o3 a0.bL 0 F0:=lQ (λk i n=>∀(F0:List Yb),Nf L a0 o1 o2 o3 n (i:Int) F0=Kb L a0 o1 o2 o3 k i F0) hl hn (λn i h F0=>by simp only[Nf,z7,Kb,Dr h,aN,aB,aC]) (λn i x k h hx ih F0=>by simp only[Nf,z7,Kb,Dn h,Ll h,hx,Az h hl,ih,aN,aB,aC])
def Kc(L:Nat)(a0:Aa)(o1:Nat×Int×List Yb)(o2:Nat×Int×List Yb)(o3:Nat×Int×List Yb)(o4:Nat×Int×List Yb):List Am->Nat->List Yb->Option (Nat×Int×List Yb)
 | [],i,Xs=>(some (0,((i:Int),Xs)))
 |x::k,i,Xs=>(if((0:Int)<=9) then(if(9<((10:Nat):Int)) then(if((Xs.length+ [x.aF].length)*16<=140737488355328) then(if(Xs.length+ [x.aF].length<=maxLen) then(if((0:Int)<=9) then(if(9<((10:Nat):Int)) then(Kc L a0 o1 o2 o3 o4 k (i+1) (Xs++ [x.aF]))else none)else none)else none)else none)else none)else none)
theorem A2m(L:Nat)(a0:Aa)(o1:Nat×Int×List Yb)(o2:Nat×Int×List Yb)(o3:Nat×Int×List Yb)(o4:Nat×Int×List Yb)(n:Nat)(hl:a0.aD.length<=maxLen)(hn:a0.aD.length<n):∀(Xs:List Yb),Ng L a0 o1 o2 o3 o4 n 0 Xs=Kc L a0 o1 o2 o3 o4 a0.aD 0 Xs:=lQ (λk i n=>∀(Xs:List Yb),Ng L a0 o1 o2 o3 o4 n (i:Int) Xs=Kc L a0 o1 o2 o3 o4 k i Xs) hl hn (λn i h Xs=>by simp only[Ng,z8,Kc,Dr h,aN,aB,aC]) (λn i x k h hx ih Xs=>by simp only[Ng,z8,Kc,Dn h,Ll h,hx,Az h hl,ih,aN,aB,aC])
def Hl(L:Nat)(a0:Ak):List Eu->Nat->Int->Option (Nat×Int×Int)
 | [],i,Ai=>(some (1,(Ai,(i:Int))))
 |x::k,i,Ai=>(Option.bind (Dh L (x.At) 0 (Bs (a0.dA-1))) λr3=>
 (Option.bind (bif (!r3) then(some true)
 else(Option.bind (Dh L (x.Units) 0 1000) λr5=>
 (some (!r5)))) λb4=>
 (bif b4 then(some (0,(2,(i:Int))))
 else(bif (decide ((i:Int)>0)) then(if(0<=(Bs ((i:Int)-1))) then(if((Bs ((i:Int)-1))<(a0.bA.length:Int)) then(bif (decide (x.At<=(a0.bA.getD (Int.toNat (Bs ((i:Int)-1))) default).At)) then(some (0,(12,(i:Int))))
 else(Hl L a0 k (i+1) Ai))else none)else none)
 else(Hl L a0 k (i+1) Ai)))))
theorem Ava(L:Nat)(a0:Ak)(n:Nat)(hl:a0.bA.length<=maxLen)(hn:a0.bA.length<n):∀(Ai:Int),Ii L a0 n Ai 0=Hl L a0 a0.bA 0 Ai:=lQ (λk i n=>∀(Ai:Int),Ii L a0 n Ai (i:Int)=Hl L a0 k i Ai) hl hn (λn i h Ai=>by simp only[Ii,T7,Hl,Dr h,aN,aB,aC]) (λn i x k h hx ih Ai=>by simp only[Ii,T7,Hl,Dn h,Ll h,hx,Az h hl,ih,aN,aB,aC])
def Im(L:Nat)(a0:List Int)(a1:List Int):List Int->Nat->Bool->Option (Nat×Bool×Int)
 | [],i,Al=>(some (1,(Al,(i:Int))))
 |x::k,i,Al=>(if((i:Int)<(a1.length:Int)) then(bif (x != (a1.getD (Int.toNat (i:Int)) default)) then(some (0,(false,(i:Int))))
 else(Im L a0 a1 k (i+1) Al))else none)
theorem Au9(L:Nat)(a0:List Int)(a1:List Int)(n:Nat)(hl:a0.length<=maxLen)(hn:a0.length<n):∀(Al:Bool),Ih L a0 a1 n Al 0=Im L a0 a1 a0 0 Al:=lQ (λk i n=>∀(Al:Bool),Ih L a0 a1 n Al (i:Int)=Im L a0 a1 k i Al) hl hn (λn i h Al=>by simp only[Ih,T6,Im,Dr h,aN,aB,aC]) (λn i x k h hx ih Al=>by simp only[Ih,T6,Im,Dn h,Ll h,hx,Az h hl,ih,aN,aB,aC])
def No(L:Nat)(a0:Bk):List Int->Nat->Int->Option (Nat×Int×Int)
 | [],i,Ai=>(some (1,(Ai,(i:Int))))
 |x::k,i,Ai=>(Option.bind (E7 L x 0 1000000000) λr1=>
 (Option.bind (bif (!r1) then(some true)
 else(if(0<=(i:Int)) then(if((i:Int)<(a0.aU.length:Int)) then(Option.bind (E7 L (a0.aU.getD (Int.toNat (i:Int)) default) 1 1000) λr3=>
 (some (!r3)))else none)else none)) λb2=>
 (bif b2 then(some (0,(2,(i:Int))))
 else(No L a0 k (i+1) Ai))))
theorem A2b(L:Nat)(a0:Bk)(n:Nat)(hl:a0.aW.length<=maxLen)(hn:a0.aW.length<n):∀(Ai:Int),M3 L a0 n Ai 0=No L a0 a0.aW 0 Ai:=lQ (λk i n=>∀(Ai:Int),M3 L a0 n Ai (i:Int)=No L a0 k i Ai) hl hn (λn i h Ai=>by simp only[M3,u4,No,Dr h,aN,aB,aC]) (λn i x k h hx ih Ai=>by simp only[M3,u4,No,Dn h,Ll h,hx,Az h hl,ih,aN,aB,aC])
def J6(Gf:(List Ad)->Option Int)(L:Nat)(a0:List Ad):List Ad->Nat->Int->Option (Nat×Int×Int)
 | [],i,Al=>(some (0,(Al,(i:Int))))
 |x::k,i,Al=>(Option.bind (Gf (x.bE)) λr1=>
 (Option.bind (Gf (x.bN)) λr2=>
 (J6 Gf L a0 k (i+1) (Bs ((Bs ((Bs (Al+1))+r1))+r2)))))
theorem A2e(Gf:(List Ad)->Option Int)(L:Nat)(a0:List Ad)(n:Nat)(hl:a0.length<=maxLen)(hn:a0.length<n):∀(Al:Int),M7 Gf L a0 n Al 0=J6 Gf L a0 a0 0 Al:=lQ (λk i n=>∀(Al:Int),M7 Gf L a0 n Al (i:Int)=J6 Gf L a0 k i Al) hl hn (λn i h Al=>by simp only[M7,u7,J6,Dr h,aN,aB,aC]) (λn i x k h hx ih Al=>by simp only[M7,u7,J6,Dn h,Ll h,hx,Az h hl,ih,aN,aB,aC])
def J7(Gg:(List Ad)->Option Int)(L:Nat)(a0:List Ad):List Ad->Nat->Int->Option (Nat×Int×Int)
 | [],i,Al=>(some (0,(Al,(i:Int))))
 |x::k,i,Al=>(Option.bind (Gg (x.bE)) λr1=>
 (Option.bind (Gg (x.bN)) λr2=>
 (J7 Gg L a0 k (i+1) (if(Bs (1+r2))>(if(Bs (1+r1))>Al then(Bs (1+r1))else Al) then(Bs (1+r2)) else(if(Bs (1+r1))>Al then(Bs (1+r1))else Al)))))
theorem A2f(Gg:(List Ad)->Option Int)(L:Nat)(a0:List Ad)(n:Nat)(hl:a0.length<=maxLen)(hn:a0.length<n):∀(Al:Int),M8 Gg L a0 n Al 0=J7 Gg L a0 a0 0 Al:=lQ (λk i n=>∀(Al:Int),M8 Gg L a0 n Al (i:Int)=J7 Gg L a0 k i Al) hl hn (λn i h Al=>by simp only[M8,u9,J7,Dr h,aN,aB,aC]) (λn i x k h hx ih Al=>by simp only[M8,u9,J7,Dn h,Ll h,hx,Az h hl,ih,aN,aB,aC])
def Nq(Hb:Ab->Option Int)(L:Nat)(a0:Ab):List Ab->Nat->Int->Option (Nat×Int×Int)
 | [],i,Ag=>(some (0,(Ag,(i:Int))))
 |x::k,i,Ag=>(Option.bind (Hb x) λr1=>
 (Nq Hb L a0 k (i+1) (Bs (Ag+r1))))
theorem A2d(Hb:Ab->Option Int)(L:Nat)(a0:Ab)(n:Nat)(hl:a0.aY.length<=maxLen)(hn:a0.aY.length<n):∀(Ag:Int),M6 Hb L a0 n Ag 0=Nq Hb L a0 a0.aY 0 Ag:=lQ (λk i n=>∀(Ag:Int),M6 Hb L a0 n Ag (i:Int)=Nq Hb L a0 k i Ag) hl hn (λn i h Ag=>by simp only[M6,u6,Nq,Dr h,aN,aB,aC]) (λn i x k h hx ih Ag=>by simp only[M6,u6,Nq,Dn h,Ll h,hx,Az h hl,ih,aN,aB,aC])
def Np(Hc:Ab->Option Int)(L:Nat)(a0:Ab):List Ab->Nat->Int->Option (Nat×Int×Int)
 | [],i,Ag=>(some (0,(Ag,(i:Int))))
 |x::k,i,Ag=>(Option.bind (Hc x) λr1=>
 (Np Hc L a0 k (i+1) (if r1>Ag then r1 else Ag)))
theorem A2c(Hc:Ab->Option Int)(L:Nat)(a0:Ab)(n:Nat)(hl:a0.aY.length<=maxLen)(hn:a0.aY.length<n):∀(Ag:Int),M5 Hc L a0 n Ag 0=Np Hc L a0 a0.aY 0 Ag:=lQ (λk i n=>∀(Ag:Int),M5 Hc L a0 n Ag (i:Int)=Np Hc L a0 k i Ag) hl hn (λn i h Ag=>by simp only[M5,u5,Np,Dr h,aN,aB,aC]) (λn i x k h hx ih Ag=>by simp only[M5,u5,Np,Dn h,Ll h,hx,Az h hl,ih,aN,aB,aC])
def Me(Bf:Ab->Bool->Option Int)(L:Nat)(a1:Bool)(a0:Ab):List Ab->Nat->Int->Option (Nat×Int×Int)
 | [],i,Ag=>(some (1,(Ag,(i:Int))))
 |x::k,i,Ag=>(Option.bind (Bf x a1) λr22=>
 (bif (r22 != 0) then(some (0,(r22,(i:Int))))
 else(Me Bf L a1 a0 k (i+1) Ag)))
theorem A5k(Bf:Ab->Bool->Option Int)(L:Nat)(a1:Bool)(a0:Ab)(n:Nat)(hl:a0.aY.length<=maxLen)(hn:a0.aY.length<n):∀(Ag:Int),Mb Bf L a1 a0 n Ag 0=Me Bf L a1 a0 a0.aY 0 Ag:=lQ (λk i n=>∀(Ag:Int),Mb Bf L a1 a0 n Ag (i:Int)=Me Bf L a1 a0 k i Ag) hl hn (λn i h Ag=>by simp only[Mb,Aep,Me,Dr h,aN,aB,aC]) (λn i x k h hx ih Ag=>by simp only[Mb,Aep,Me,Dn h,Ll h,hx,Az h hl,ih,aN,aB,aC])
def H9(Ef:(List Ad)->Option Int)(L:Nat)(a0:List Ad):List Ad->Nat->Int->Option (Nat×Int×Int)
 | [],i,Ag=>(some (1,(Ag,(i:Int))))
 |x::k,i,Ag=>(Option.bind (Aml L x) λr1=>
 (bif (r1 == 0) then(Option.bind (Ef (x.bE)) λr2=>
 (bif (r2 == 0) then(Option.bind (Ef (x.bN)) λr3=>
 (bif (r3 != 0) then(some (0,(r3,(i:Int))))
 else(H9 Ef L a0 k (i+1) Ag)))
 else(bif (r2 != 0) then(some (0,(r2,(i:Int))))
 else(H9 Ef L a0 k (i+1) Ag))))
 else(bif (r1 == 0) then(Option.bind (Ef (x.bN)) λr4=>
 (bif (r4 != 0) then(some (0,(r4,(i:Int))))
 else(H9 Ef L a0 k (i+1) Ag)))
 else(bif (r1 != 0) then(some (0,(r1,(i:Int))))
 else(H9 Ef L a0 k (i+1) Ag)))))
theorem A5l(Ef:(List Ad)->Option Int)(L:Nat)(a0:List Ad)(n:Nat)(hl:a0.length<=maxLen)(hn:a0.length<n):∀(Ag:Int),Qb Ef L a0 n Ag 0=H9 Ef L a0 a0 0 Ag:=lQ (λk i n=>∀(Ag:Int),Qb Ef L a0 n Ag (i:Int)=H9 Ef L a0 k i Ag) hl hn (λn i h Ag=>by simp only[Qb,Aeq,H9,Dr h,aN,aB,aC]) (λn i x k h hx ih Ag=>by simp only[Qb,Aeq,H9,Dn h,Ll h,hx,Az h hl,ih,aN,aB,aC])
def Jn(L:Nat)(a0:Am):List Ba->Nat->Int->List Yb->Option (Nat×Int×List Yb×Int)
 | [],i,Ai,Ag=>(some (1,(Ai,Ag,(i:Int))))
 |x::k,i,Ai,Ag=>(Option.bind (L4 L (x.aF) Ag) λr2=>
 (Option.bind (Vf L (x.bO)) λr3=>
 (Option.bind (Cj L r3 1) λr4=>
 (Option.bind (Cy L r2 r4) λr5=>
 (bif (r5 != 0) then(some (0,(r5,Ag,(i:Int))))
 else(if((Ag.length+ [x.aF].length)*16<=140737488355328) then(if(Ag.length+ [x.aF].length<=maxLen) then(Jn L a0 k (i+1) Ai (Ag++ [x.aF]))else none)else none))))))
theorem Aw6(L:Nat)(a0:Am)(n:Nat)(hl:(a0.aJ++a0.bC).length<=maxLen)(hn:(a0.aJ++a0.bC).length<n):∀(Ai:Int) (Ag:List Yb),Jc L a0 n Ai Ag 0=Jn L a0 (a0.aJ++a0.bC) 0 Ai Ag:=lQ (λk i n=>∀(Ai:Int) (Ag:List Yb),Jc L a0 n Ai Ag (i:Int)=Jn L a0 k i Ai Ag) hl hn (λn i h Ai Ag=>by simp only[Jc,Wa,Jn,Dr h,aN,aB,aC]) (λn i x k h hx ih Ai Ag=>by simp only[Jc,Wa,Jn,Dn h,Ll h,hx,Az h hl,ih,aN,aB,aC])
def Ke(L:Nat)(a0:Aa)(r1:Int)(a1:Bv):List Ba->Nat->Int->Option (Nat×Int×Int)
 | [],i,Ai=>(some (1,(Ai,(i:Int))))
 |x::k,i,Ai=>(if((i:Int)<(a1.aP.length:Int)) then(Option.bind (Zn L (x.bO) (a1.aP.getD (Int.toNat (i:Int)) default)) λr2=>
 (bif (!r2) then(some (0,(2,(i:Int))))
 else(Ke L a0 r1 a1 k (i+1) Ai)))else none)
theorem A2o(L:Nat)(a0:Aa)(r1:Int)(a1:Bv)(n:Nat)(hl:((a0.aD.getD (Int.toNat r1) default).aJ).length<=maxLen)(hn:((a0.aD.getD (Int.toNat r1) default).aJ).length<n):∀(Ai:Int),Ni L a0 r1 a1 n Ai 0=Ke L a0 r1 a1 ((a0.aD.getD (Int.toNat r1) default).aJ) 0 Ai:=lQ (λk i n=>∀(Ai:Int),Ni L a0 r1 a1 n Ai (i:Int)=Ke L a0 r1 a1 k i Ai) hl hn (λn i h Ai=>by simp only[Ni,Aab,Ke,Dr h,aN,aB,aC]) (λn i x k h hx ih Ai=>by simp only[Ni,Aab,Ke,Dn h,Ll h,hx,Az h hl,ih,aN,aB,aC])
def Tu(L:Nat)(a1:Yb)(r1:List (List Yb))(a0:Aa):List ((List Yb))->Nat->Yb->Option (Nat×Yb×Int)
 | [],i,Ag=>(some (1,(Ag,(i:Int))))
 |x::k,i,Ag=>(Option.bind (Km L x a1) λr2=>
 (bif (decide (r2>=0)) then(if((i:Int)<(([(⟨#[118,97,114]⟩:Yb),(⟨#[114,101,115,111,117,114,99,101]⟩:Yb),(⟨#[115,116,111,114,101]⟩:Yb),(⟨#[98,101,108,116]⟩:Yb),(⟨#[113,117,101,117,101]⟩:Yb),(⟨#[115,116,114,101,97,109]⟩:Yb),(⟨#[116,97,108,108,121]⟩:Yb),(⟨#[108,101,118,101,108]⟩:Yb),(⟨#[99,111,117,110,116]⟩:Yb),(⟨#[114,111,117,116,105,110,101]⟩:Yb)].length:Nat):Int)) then(some (0,(([(⟨#[118,97,114]⟩:Yb),(⟨#[114,101,115,111,117,114,99,101]⟩:Yb),(⟨#[115,116,111,114,101]⟩:Yb),(⟨#[98,101,108,116]⟩:Yb),(⟨#[113,117,101,117,101]⟩:Yb),(⟨#[115,116,114,101,97,109]⟩:Yb),(⟨#[116,97,108,108,121]⟩:Yb),(⟨#[108,101,118,101,108]⟩:Yb),(⟨#[99,111,117,110,116]⟩:Yb),(⟨#[114,111,117,116,105,110,101]⟩:Yb)].getD (Int.toNat (i:Int)) default),(i:Int))))else none)
 else(Tu L a1 r1 a0 k (i+1) Ag)))
theorem A5m(L:Nat)(a1:Yb)(r1:List (List Yb))(a0:Aa)(n:Nat)(hl:r1.length<=maxLen)(hn:r1.length<n):∀(Ag:Yb),Qc L a1 r1 a0 n Ag 0=Tu L a1 r1 a0 r1 0 Ag:=lQ (λk i n=>∀(Ag:Yb),Qc L a1 r1 a0 n Ag (i:Int)=Tu L a1 r1 a0 k i Ag) hl hn (λn i h Ag=>by simp only[Qc,Aer,Tu,Dr h,aN,aB,aC]) (λn i x k h hx ih Ag=>by simp only[Qc,Aer,Tu,Dn h,Ll h,hx,Az h hl,ih,aN,aB,aC])
def O6(L:Nat)(a0:Aa)(a1:Bh):List Bd->Nat->Int->Option (Nat×Int×Int)
 | [],i,Ag=>(some (0,(Ag,(i:Int))))
 |x::k,i,Ag=>(Option.bind (Aim L a0 x) λr6=>
 (Option.bind (Cy L Ag r6) λr7=>
 (O6 L a0 a1 k (i+1) r7)))
theorem A7k(L:Nat)(a0:Aa)(a1:Bh)(n:Nat)(hl:a1.bV.length<=maxLen)(hn:a1.bV.length<n):∀(Ag:Int),Sw L a0 a1 n Ag 0=O6 L a0 a1 a1.bV 0 Ag:=lQ (λk i n=>∀(Ag:Int),Sw L a0 a1 n Ag (i:Int)=O6 L a0 a1 k i Ag) hl hn (λn i h Ag=>by simp only[Sw,Ah4,O6,Dr h,aN,aB,aC]) (λn i x k h hx ih Ag=>by simp only[Sw,Ah4,O6,Dn h,Ll h,hx,Az h hl,ih,aN,aB,aC])
def Ia(L:Nat)(r1:List (List Yb))(a0:Aa):List ((List Yb))->Nat->Int->List Yb->Option (Nat×Int×List Yb×Int)
 | [],i,Ai,Ag=>(some (1,(Ai,Ag,(i:Int))))
 |x::k,i,Ai,Ag=>(Option.bind (bif (decide ((x.length:Int)>32)) then(some true)
 else(bif ((i:Int) == 9) then(if(0<=(i:Int)) then(if((i:Int)<(r1.length:Int)) then(some (decide ((x.length:Int)>16)))else none)else none)
 else(some false))) λb2=>
 (bif b2 then(some (0,(6,Ag,(i:Int))))
 else(Option.bind (Mc L r1 (i:Int) a0 L Ai Ag 0) λo6=>
 (Apw o6.1 [(some (0,(o6.2.1,o6.2.2.1,(i:Int)))),(Ia L r1 a0 k (i+1) o6.2.1 o6.2.2.1)]))))
theorem A5o(L:Nat)(r1:List (List Yb))(a0:Aa)(n:Nat)(hl:r1.length<=maxLen)(hn:r1.length<n):∀(Ai:Int) (Ag:List Yb),Qe L r1 a0 n Ai Ag 0=Ia L r1 a0 r1 0 Ai Ag:=lQ (λk i n=>∀(Ai:Int) (Ag:List Yb),Qe L r1 a0 n Ai Ag (i:Int)=Ia L r1 a0 k i Ai Ag) hl hn (λn i h Ai Ag=>by simp only[Qe,Alq,Aff,Ae8,Ia,Dr h,aN,aB,aC]) (λn i x k h hx ih Ai Ag=>by simp only[Qe,Alq,Aff,Ae8,Ia,Dn h,Ll h,hx,Az h hl,ih,aN,aB,aC])
def Tv(L:Nat)(a0:Aa):List Bv->Nat->Int->Option (Nat×Int×Int)
 | [],i,D9=>(some (1,(D9,(i:Int))))
 |x::k,i,D9=>(Option.bind (Z1 L a0 x) λr8=>
 (bif (r8 != 0) then(some (0,(r8,(i:Int))))
 else(Tv L a0 k (i+1) D9)))
theorem A5p(L:Nat)(a0:Aa)(n:Nat)(hl:a0.bZ.length<=maxLen)(hn:a0.bZ.length<n):∀(D9:Int),Qf L a0 n D9 0=Tv L a0 a0.bZ 0 D9:=lQ (λk i n=>∀(D9:Int),Qf L a0 n D9 (i:Int)=Tv L a0 k i D9) hl hn (λn i h D9=>by simp only[Qf,Aeu,Tv,Dr h,aN,aB,aC]) (λn i x k h hx ih D9=>by simp only[Qf,Aeu,Tv,Dn h,Ll h,hx,Az h hl,ih,aN,aB,aC])
def Qm(L:Nat)(a0:Aa):List Bh->Nat->Int->List Yb->Option (Nat×Int×List Yb×Int)
 | [],i,Mu,H6=>(some (1,(Mu,H6,(i:Int))))
 |x::k,i,Mu,H6=>(Option.bind (Amm L a0 x H6) λr10=>
 (bif (r10 != 0) then(some (0,(r10,H6,(i:Int))))
 else(if((H6.length+ [x.aF].length)*16<=140737488355328) then(if(H6.length+ [x.aF].length<=maxLen) then(Qm L a0 k (i+1) Mu (H6++ [x.aF]))else none)else none)))
theorem A5q(L:Nat)(a0:Aa)(n:Nat)(hl:a0.Laws.length<=maxLen)(hn:a0.Laws.length<n):∀(Mu:Int) (H6:List Yb),Qg L a0 n Mu H6 0=Qm L a0 a0.Laws 0 Mu H6:=lQ (λk i n=>∀(Mu:Int) (H6:List Yb),Qg L a0 n Mu H6 (i:Int)=Qm L a0 k i Mu H6) hl hn (λn i h Mu H6=>by simp only[Qg,Aev,Qm,Dr h,aN,aB,aC]) (λn i x k h hx ih Mu H6=>by simp only[Qg,Aev,Qm,Dn h,Ll h,hx,Az h hl,ih,aN,aB,aC])
def Ql(L:Nat)(a1:Yb)(a0:Aj):List Aa->Nat->Int->Option (Nat×Int×Int)
 | [],i,Ag=>(some (1,(Ag,(i:Int))))
 |x::k,i,Ag=>(bif (x.aF.toList == a1.toList) then(some (0,((i:Int),(i:Int))))
 else(Ql L a1 a0 k (i+1) Ag))
theorem A5n(L:Nat)(a1:Yb)(a0:Aj)(n:Nat)(hl:a0.aA.length<=maxLen)(hn:a0.aA.length<n):∀(Ag:Int),Qd L a1 a0 n Ag 0=Ql L a1 a0 a0.aA 0 Ag:=lQ (λk i n=>∀(Ag:Int),Qd L a1 a0 n Ag (i:Int)=Ql L a1 a0 k i Ag) hl hn (λn i h Ag=>by simp only[Qd,Aes,Ql,Dr h,aN,aB,aC]) (λn i x k h hx ih Ag=>by simp only[Qd,Aes,Ql,Dn h,Ll h,hx,Az h hl,ih,aN,aB,aC])
def Kd(L:Nat)(a0:Aj):List B9->Nat->Int->Option (Nat×Int×Int)
 | [],i,Ai=>(some (1,(Ai,(i:Int))))
 |x::k,i,Ai=>(Option.bind (Zo L a0 (x.aV)) λr1=>
 (Option.bind (bif (decide (r1<0)) then(some true)
 else(Option.bind (Zo L a0 (x.To)) λr3=>
 (some (decide (r3<0))))) λb2=>
 (bif b2 then(some (0,(5,(i:Int))))
 else(bif (x.aV.toList == x.To.toList) then(some (0,(1,(i:Int))))
 else(Option.bind (Dh L (x.bU) 1 1000000000) λr4=>
 (bif (!r4) then(some (0,(2,(i:Int))))
 else(Option.bind (J3 L (i:Int) a0 L Ai 0) λo5=>
 (Apw o5.1 [(some (0,(o5.2.1,(i:Int)))),(Kd L a0 k (i+1) o5.2.1)]))))))))
theorem A2n(L:Nat)(a0:Aj)(n:Nat)(hl:a0.aH.length<=maxLen)(hn:a0.aH.length<n):∀(Ai:Int),Nh L a0 n Ai 0=Kd L a0 a0.aH 0 Ai:=lQ (λk i n=>∀(Ai:Int),Nh L a0 n Ai (i:Int)=Kd L a0 k i Ai) hl hn (λn i h Ai=>by simp only[Nh,Ajg,Ab3,Aa9,Kd,Dr h,aN,aB,aC]) (λn i x k h hx ih Ai=>by simp only[Nh,Ajg,Ab3,Aa9,Kd,Dn h,Ll h,hx,Az h hl,ih,aN,aB,aC])
def Nr(L:Nat)(a0:Aj):List Aw->Nat->Int->Int->List Yb->Option (Nat×Int×Int×List Yb×Int)
 | [],i,Ai,Ag,Al=>(some (1,(Ai,Ag,Al,(i:Int))))
 |x::k,i,Ai,Ag,Al=>(Option.bind (Afm L x Al) λr4=>
 (bif (r4 != 0) then(some (0,(r4,r4,Al,(i:Int))))
 else(if((Al.length+ [x.aF].length)*16<=140737488355328) then(if(Al.length+ [x.aF].length<=maxLen) then(Nr L a0 k (i+1) Ai r4 (Al++ [x.aF]))else none)else none)))
theorem A2g(L:Nat)(a0:Aj)(n:Nat)(hl:a0.aJ.length<=maxLen)(hn:a0.aJ.length<n):∀(Ai:Int) (Ag:Int) (Al:List Yb),M9 L a0 n Ai Ag Al 0=Nr L a0 a0.aJ 0 Ai Ag Al:=lQ (λk i n=>∀(Ai:Int) (Ag:Int) (Al:List Yb),M9 L a0 n Ai Ag Al (i:Int)=Nr L a0 k i Ai Ag Al) hl hn (λn i h Ai Ag Al=>by simp only[M9,w3,Nr,Dr h,aN,aB,aC]) (λn i x k h hx ih Ai Ag Al=>by simp only[M9,w3,Nr,Dn h,Ll h,hx,Az h hl,ih,aN,aB,aC])
def Ns(L:Nat)(a0:Aj):List Aa->Nat->Int->Int->List Yb->Option (Nat×Int×Int×List Yb×Int)
 | [],i,Bz,Gi,R7=>(some (1,(Bz,Gi,R7,(i:Int))))
 |x::k,i,Bz,Gi,R7=>(Option.bind (L4 L (x.aF) R7) λr9=>
 (Option.bind (Ail L x) λr10=>
 (Option.bind (Cy L r9 r10) λr11=>
 (bif (r11 != 0) then(some (0,(r11,r11,R7,(i:Int))))
 else(if((R7.length+ [x.aF].length)*16<=140737488355328) then(if(R7.length+ [x.aF].length<=maxLen) then(Ns L a0 k (i+1) Bz r11 (R7++ [x.aF]))else none)else none)))))
theorem A2h(L:Nat)(a0:Aj)(n:Nat)(hl:a0.aA.length<=maxLen)(hn:a0.aA.length<n):∀(Bz:Int) (Gi:Int) (R7:List Yb),Na L a0 n Bz Gi R7 0=Ns L a0 a0.aA 0 Bz Gi R7:=lQ (λk i n=>∀(Bz:Int) (Gi:Int) (R7:List Yb),Na L a0 n Bz Gi R7 (i:Int)=Ns L a0 k i Bz Gi R7) hl hn (λn i h Bz Gi R7=>by simp only[Na,x0,Ns,Dr h,aN,aB,aC]) (λn i x k h hx ih Bz Gi R7=>by simp only[Na,x0,Ns,Dn h,Ll h,hx,Az h hl,ih,aN,aB,aC])
def Qn(L:Nat)(a0:A9):List Aq->Nat->Bool->Option (Nat×Bool×Int)
 | [],i,Ai=>(some (1,(Ai,(i:Int))))
 |x::k,i,Ai=>(if((i:Int)<(a0.aL.aD.length:Int)) then(bif (decide ((((a0.aL.aD.getD (Int.toNat (i:Int)) default).bE).length:Int)>0)) then(some (0,(false,(i:Int))))
 else(bif (!(((a0.aL.aD.getD (Int.toNat (i:Int)) default).aF).toList == x.aF.toList)) then(some (0,(false,(i:Int))))
 else(bif ((((a0.aL.aD.getD (Int.toNat (i:Int)) default).aJ).length:Int) != x.aJ) then(some (0,(false,(i:Int))))
 else(Qn L a0 k (i+1) Ai))))else none)
theorem A5s(L:Nat)(a0:A9)(n:Nat)(hl:a0.aD.length<=maxLen)(hn:a0.aD.length<n):∀(Ai:Bool),Qi L a0 n Ai 0=Qn L a0 a0.aD 0 Ai:=lQ (λk i n=>∀(Ai:Bool),Qi L a0 n Ai (i:Int)=Qn L a0 k i Ai) hl hn (λn i h Ai=>by simp only[Qi,Aex,Qn,Dr h,aN,aB,aC]) (λn i x k h hx ih Ai=>by simp only[Qi,Aex,Qn,Dn h,Ll h,hx,Az h hl,ih,aN,aB,aC])
def Mf(L:Nat)(a0:Ac):List Dt->Nat->Int->Option (Nat×Int×Int)
 | [],i,Ai=>(some (1,(Ai,(i:Int))))
 |x::k,i,Ai=>((λb1=>
 ((λb2=>
 ((λb3=>
 ((λb4=>
 ((λb5=>
 ((λb6=>
 (bif b6 then(some (0,(2,(i:Int))))
 else(Option.bind (Md L a0 (i:Int) L Ai 0) λo7=>
 (Apw o7.1 [(some (0,(o7.2.1,(i:Int)))),(Mf L a0 k (i+1) o7.2.1)])))) (bif b5 then true
 else(decide (x.bU>1000000000))))) (bif b4 then true
 else(decide (x.bU<1))))) (bif b3 then true
 else(x.aV == x.To)))) (bif b2 then true
 else(decide (x.To>=(a0.aA.length:Int)))))) (bif b1 then true
 else(decide (x.To<0))))) (bif (decide (x.aV<0))then true
 else(decide (x.aV>=(a0.aA.length:Int)))))
theorem A5r(L:Nat)(a0:Ac)(n:Nat)(hl:a0.aH.length<=maxLen)(hn:a0.aH.length<n):∀(Ai:Int),Qh L a0 n Ai 0=Mf L a0 a0.aH 0 Ai:=lQ (λk i n=>∀(Ai:Int),Qh L a0 n Ai (i:Int)=Mf L a0 k i Ai) hl hn (λn i h Ai=>by simp only[Qh,Alr,Afj,Afa,Mf,Dr h,aN,aB,aC]) (λn i x k h hx ih Ai=>by simp only[Qh,Alr,Afj,Afa,Mf,Dn h,Ll h,hx,Az h hl,ih,aN,aB,aC])
def Rp(De:Ab->Ab->Option Bool)(Di:(List Ab)->(List Ab)->Option Bool)(L:Nat)(a0:List Ab)(a1:List Ab):List Ab->Nat->Bool->Option (Nat×Bool×Int)
 | [],i,Al=>(some (1,(Al,(i:Int))))
 |x::k,i,Al=>(if((i:Int)<(a1.length:Int)) then(Option.bind (De x (a1.getD (Int.toNat (i:Int)) default)) λr1=>
 (bif (!r1) then(some (0,(false,(i:Int))))
 else(Rp De Di L a0 a1 k (i+1) Al)))else none)
theorem Aw5(De:Ab->Ab->Option Bool)(Di:(List Ab)->(List Ab)->Option Bool)(L:Nat)(a0:List Ab)(a1:List Ab)(n:Nat)(hl:a0.length<=maxLen)(hn:a0.length<n):∀(Al:Bool),Jb De Di L a0 a1 n Al 0=Rp De Di L a0 a1 a0 0 Al:=lQ (λk i n=>∀(Al:Bool),Jb De Di L a0 a1 n Al (i:Int)=Rp De Di L a0 a1 k i Al) hl hn (λn i h Al=>by simp only[Jb,V9,Rp,Dr h,aN,aB,aC]) (λn i x k h hx ih Al=>by simp only[Jb,V9,Rp,Dn h,Ll h,hx,Az h hl,ih,aN,aB,aC])
def Sy(L:Nat)(a1:Int)(a2:Int)(a0:Ac):List Dt->Nat->Int->Bool->Option (Nat×Int×Bool×Int)
 | [],i,Al,Af=>(some (1,(Al,Af,(i:Int))))
 |x::k,i,Al,Af=>(Option.bind (bif (x.aV == a1) then(if(0<=(i:Int)) then(if((i:Int)<(a0.aH.length:Int)) then(some (x.To == a2))else none)else none)
 else(some false)) λb1=>
 (bif b1 then(some (0,((x.bU),true,(i:Int))))
 else(Sy L a1 a2 a0 k (i+1) Al Af)))
theorem A7l(L:Nat)(a1:Int)(a2:Int)(a0:Ac)(n:Nat)(hl:a0.aH.length<=maxLen)(hn:a0.aH.length<n):∀(Al:Int) (Af:Bool),Sx L a1 a2 a0 n Al Af 0=Sy L a1 a2 a0 a0.aH 0 Al Af:=lQ (λk i n=>∀(Al:Int) (Af:Bool),Sx L a1 a2 a0 n Al Af (i:Int)=Sy L a1 a2 a0 k i Al Af) hl hn (λn i h Al Af=>by simp only[Sx,Ah5,Sy,Dr h,aN,aB,aC]) (λn i x k h hx ih Al Af=>by simp only[Sx,Ah5,Sy,Dn h,Ll h,hx,Az h hl,ih,aN,aB,aC])
def Mg(Eg:Ac->Int->Aq->Ab->Option Bool)(L:Nat)(a1:Int)(a0:Ac)(a2:Aq)(a3:Ab):List Ab->Nat->Bool->Option (Nat×Bool×Int)
 | [],i,Ag=>(some (1,(Ag,(i:Int))))
 |x::k,i,Ag=>(Option.bind (Eg (⟨a0.aF,a0.aA,a0.aH⟩:Ac) a1 a2 x) λr4=>
 (bif (!r4) then(some (0,(false,(i:Int))))
 else(Mg Eg L a1 a0 a2 a3 k (i+1) Ag)))
theorem A5t(Eg:Ac->Int->Aq->Ab->Option Bool)(L:Nat)(a1:Int)(a0:Ac)(a2:Aq)(a3:Ab)(n:Nat)(hl:a3.aY.length<=maxLen)(hn:a3.aY.length<n):∀(Ag:Bool),Hn Eg L a1 a0 a2 a3 n Ag 0=Mg Eg L a1 a0 a2 a3 a3.aY 0 Ag:=lQ (λk i n=>∀(Ag:Bool),Hn Eg L a1 a0 a2 a3 n Ag (i:Int)=Mg Eg L a1 a0 a2 a3 k i Ag) hl hn (λn i h Ag=>by simp only[Hn,Aey,Mg,Dr h,aN,aB,aC]) (λn i x k h hx ih Ag=>by simp only[Hn,Aey,Mg,Dn h,Ll h,hx,Az h hl,ih,aN,aB,aC])
def Kg(L:Nat)(a1:Int)(r5:List Ab)(a0:Ac)(a2:Aq)(a3:Ar):List Ab->Nat->Int->Int->Option (Nat×Int×Int×Int)
 | [],i,Ag,Al=>(some (1,(Ag,Al,(i:Int))))
 |x::k,i,Ag,Al=>(Option.bind (Te L x) λr6=>
 (bif (r6 == 0) then(Option.bind (I4 L (⟨a0.aF,a0.aA,a0.aH⟩:Ac) a1 a2 x) λr7=>
 (bif (!r7) then(some (0,(2,2,(i:Int))))
 else(bif (r6 != 0) then(some (0,(r6,r6,(i:Int))))
 else(Kg L a1 r5 a0 a2 a3 k (i+1) Ag r6))))
 else(bif (r6 != 0) then(some (0,(r6,r6,(i:Int))))
 else(Kg L a1 r5 a0 a2 a3 k (i+1) Ag r6))))
theorem A2r(L:Nat)(a1:Int)(r5:List Ab)(a0:Ac)(a2:Aq)(a3:Ar)(n:Nat)(hl:r5.length<=maxLen)(hn:r5.length<n):∀(Ag:Int) (Al:Int),Nl L a1 r5 a0 a2 a3 n Ag Al 0=Kg L a1 r5 a0 a2 a3 r5 0 Ag Al:=lQ (λk i n=>∀(Ag:Int) (Al:Int),Nl L a1 r5 a0 a2 a3 n Ag Al (i:Int)=Kg L a1 r5 a0 a2 a3 k i Ag Al) hl hn (λn i h Ag Al=>by simp only[Nl,Aae,Kg,Dr h,aN,aB,aC]) (λn i x k h hx ih Ag Al=>by simp only[Nl,Aae,Kg,Dn h,Ll h,hx,Az h hl,ih,aN,aB,aC])
def Jo(L:Nat)(a1:Int)(a0:Ac)(a2:Aq):List Ar->Nat->Int->Int->Option (Nat×Int×Int×Int)
 | [],i,Ag,Al=>(some (1,(Ag,Al,(i:Int))))
 |x::k,i,Ag,Al=>(Option.bind (Z3 L (⟨a0.aF,a0.aA,a0.aH⟩:Ac) a1 a2 (⟨x.Op,x.A,x.B,x.C,(x.E),(x.F),x.aP,(x.bF),x.bY⟩:Ar)) λr6=>
 (bif (r6 != 0) then(some (0,(r6,r6,(i:Int))))
 else(Jo L a1 a0 a2 k (i+1) Ag r6)))
theorem Aw7(L:Nat)(a1:Int)(a0:Ac)(a2:Aq)(n:Nat)(hl:a2.aR.length<=maxLen)(hn:a2.aR.length<n):∀(Ag:Int) (Al:Int),Jd L a1 a0 a2 n Ag Al 0=Jo L a1 a0 a2 a2.aR 0 Ag Al:=lQ (λk i n=>∀(Ag:Int) (Al:Int),Jd L a1 a0 a2 n Ag Al (i:Int)=Jo L a1 a0 a2 k i Ag Al) hl hn (λn i h Ag Al=>by simp only[Jd,Wb,Jo,Dr h,aN,aB,aC]) (λn i x k h hx ih Ag Al=>by simp only[Jd,Wb,Jo,Dn h,Ll h,hx,Az h hl,ih,aN,aB,aC])
def Kf(L:Nat)(a0:Ac):List A9->Nat->Int->Int->Option (Nat×Int×Int×Int)
 | [],i,Ai,Ag=>(some (1,(Ai,Ag,(i:Int))))
 |x::k,i,Ai,Ag=>(Option.bind (Zz L (⟨a0.aF,[],[(x.aL)],[]⟩:Aj)) λr2=>
 (bif (r2 != 0) then(some (0,(r2,r2,(i:Int))))
 else(Option.bind (J4 L r2 (i:Int) a0 L Ai 0) λo3=>
 (Apw o3.1 [(some (0,(o3.2.1,r2,(i:Int)))),(Option.bind (Acu L (⟨(x.aL),x.aD⟩:A9)) λr4=>
 (bif (!r4) then(some (0,(8,r2,(i:Int))))
 else(Kf L a0 k (i+1) o3.2.1 r2)))]))))
theorem A2p(L:Nat)(a0:Ac)(n:Nat)(hl:a0.aA.length<=maxLen)(hn:a0.aA.length<n):∀(Ai:Int) (Ag:Int),Nj L a0 n Ai Ag 0=Kf L a0 a0.aA 0 Ai Ag:=lQ (λk i n=>∀(Ai:Int) (Ag:Int),Nj L a0 n Ai Ag (i:Int)=Kf L a0 k i Ai Ag) hl hn (λn i h Ai Ag=>by simp only[Nj,Ajh,Ab6,Abc,Kf,Dr h,aN,aB,aC]) (λn i x k h hx ih Ai Ag=>by simp only[Nj,Ajh,Ab6,Abc,Kf,Dn h,Ll h,hx,Az h hl,ih,aN,aB,aC])
def Nt(L:Nat)(o5:Nat×Int×Int×Int)(a0:Ac):List A9->Nat->Int->Option (Nat×Int×Int)
 | [],i,Iv=>(some (0,(Iv,(i:Int))))
 |x::k,i,Iv=>(Option.bind (J5 L o5 (i:Int) a0 L Iv 0) λo8=>
 (Apw o8.1 [(Nt L o5 a0 k (i+1) o8.2.1)]))
theorem A2q(L:Nat)(o5:Nat×Int×Int×Int)(a0:Ac)(n:Nat)(hl:a0.aA.length<=maxLen)(hn:a0.aA.length<n):∀(Iv:Int),Nk L o5 a0 n Iv 0=Nt L o5 a0 a0.aA 0 Iv:=lQ (λk i n=>∀(Iv:Int),Nk L o5 a0 n Iv (i:Int)=Nt L o5 a0 k i Iv) hl hn (λn i h Iv=>by simp only[Nk,Aji,Ab7,Abd,Nt,Dr h,aN,aB,aC]) (λn i x k h hx ih Iv=>by simp only[Nk,Aji,Ab7,Abd,Nt,Dn h,Ll h,hx,Az h hl,ih,aN,aB,aC])
def Gz(L:Nat)(p1_6:List Ah)(p1_7:Ap):List Ah->Nat->List Ah->Option (Nat×List Ah×Int)
 | [],i,Lo=>(some (0,(Lo,(i:Int))))
 |x::k,i,Lo=>(bif (x.bG != p1_7.bI) then(if((Lo.length+ [x].length)*16<=140737488355328) then(if(Lo.length+ [x].length<=maxLen) then(Gz L p1_6 p1_7 k (i+1) (Lo++ [x]))else none)else none)
 else(Gz L p1_6 p1_7 k (i+1) Lo))
theorem Aw9(L:Nat)(p1_6:List Ah)(p1_7:Ap)(n:Nat)(hl:p1_6.length<=maxLen)(hn:p1_6.length<n):∀(Lo:List Ah),Gx L p1_6 p1_7 n Lo 0=Gz L p1_6 p1_7 p1_6 0 Lo:=lQ (λk i n=>∀(Lo:List Ah),Gx L p1_6 p1_7 n Lo (i:Int)=Gz L p1_6 p1_7 k i Lo) hl hn (λn i h Lo=>by simp only[Gx,Wc,Gz,Dr h,aN,aB,aC]) (λn i x k h hx ih Lo=>by simp only[Gx,Wc,Gz,Dn h,Ll h,hx,Az h hl,ih,aN,aB,aC])
def Ee(L:Nat)(p1_6:List Ah)(p1_7:Ap):List Ah->Nat->List Ah->Option (Nat×List Ah×Int)
 | [],i,Yc=>(some (0,(Yc,(i:Int))))
 |x::k,i,Yc=>(bif (x.bG != p1_7.bI) then(if((Yc.length+ [x].length)*16<=140737488355328) then(if(Yc.length+ [x].length<=maxLen) then(Ee L p1_6 p1_7 k (i+1) (Yc++ [x]))else none)else none)
 else(bif (decide (p1_7.aI>=0)) then(bif (x.aK != p1_7.aI) then(if((Yc.length+ [x].length)*16<=140737488355328) then(if(Yc.length+ [x].length<=maxLen) then(Ee L p1_6 p1_7 k (i+1) (Yc++ [x]))else none)else none)
 else(Ee L p1_6 p1_7 k (i+1) Yc))
 else(Ee L p1_6 p1_7 k (i+1) Yc)))
theorem Axa(L:Nat)(p1_6:List Ah)(p1_7:Ap)(n:Nat)(hl:p1_6.length<=maxLen)(hn:p1_6.length<n):∀(Yc:List Ah),E8 L p1_6 p1_7 n Yc 0=Ee L p1_6 p1_7 p1_6 0 Yc:=lQ (λk i n=>∀(Yc:List Ah),E8 L p1_6 p1_7 n Yc (i:Int)=Ee L p1_6 p1_7 k i Yc) hl hn (λn i h Yc=>by simp only[E8,Wd,Ee,Dr h,aN,aB,aC]) (λn i x k h hx ih Yc=>by simp only[E8,Wd,Ee,Dn h,Ll h,hx,Az h hl,ih,aN,aB,aC])
def Gy(L:Nat)(a1:List Ap)(a2:Int)(a3:Int)(a0:Ac):List Ap->Nat->List Ah->List Int->List Int->List Int->Option (Nat×List Ah×Int×List Int×List Int×List Int)
 | [],i,Af,Cp,Cq,D3=>(some (0,(Af,(i:Int),Cp,Cq,D3)))
 |x::k,i,Af,Cp,Cq,D3=>(Option.bind (bif (x.bT == a2) then(if(0<=(i:Int)) then(if((i:Int)<(a1.length:Int)) then(some (decide (x.Time<=a3)))else none)else none)
 else(some false)) λb1=>
 (bif b1 then(Option.bind (Mk L a3 a2 (Int.toNat (((a0.aA.getD (Int.toNat a2) default).aD).length:Int)) (Int.toNat ((((a0.aA.getD (Int.toNat a2) default).aL).aG).length:Int)) (Int.toNat ((((a0.aA.getD (Int.toNat a2) default).aL).aG).length:Int)) (Int.toNat ((((a0.aA.getD (Int.toNat a2) default).aL).aM).length:Int)) Af x a3 a2 (Int.toNat (((a0.aA.getD (Int.toNat a2) default).aD).length:Int)) (Int.toNat ((((a0.aA.getD (Int.toNat a2) default).aL).aG).length:Int)) (Int.toNat ((((a0.aA.getD (Int.toNat a2) default).aL).aG).length:Int)) (Int.toNat ((((a0.aA.getD (Int.toNat a2) default).aL).aM).length:Int)) Cp Cq (List.replicate (Int.toNat ((((a0.aA.getD (Int.toNat a2) default).aL).aG).length:Int)) 0) D3) λo16=>
 (Gy L a1 a2 a3 a0 k (i+1) o16.1 o16.2.1 o16.2.2.1 o16.2.2.2))
 else(Gy L a1 a2 a3 a0 k (i+1) Af Cp Cq D3)))
theorem Aw8(L:Nat)(a1:List Ap)(a2:Int)(a3:Int)(a0:Ac)(n:Nat)(hl:a1.length<=maxLen)(hn:a1.length<n):∀(Af:List Ah) (Cp:List Int) (Cq:List Int) (D3:List Int),Je L a1 a2 a3 a0 n Af 0 Cp Cq D3=Gy L a1 a2 a3 a0 a1 0 Af Cp Cq D3:=lQ (λk i n=>∀(Af:List Ah) (Cp:List Int) (Cq:List Int) (D3:List Int),Je L a1 a2 a3 a0 n Af (i:Int) Cp Cq D3=Gy L a1 a2 a3 a0 k i Af Cp Cq D3) hl hn (λn i h Af Cp Cq D3=>by simp only[Je,Adp,U4,Uv,Gy,Dr h,aN,aB,aC]) (λn i x k h hx ih Af Cp Cq D3=>by simp only[Je,Adp,U4,Uv,Gy,Dn h,Ll h,hx,Az h hl,ih,aN,aB,aC])
def Jp(L:Nat)(o17:Nat×List Ah×Int×List Int×List Int×List Int)(a3:Int)(a2:Int)(a0:Ac):List Ah->Nat->List Int->Option (Nat×Int×List Int)
 | [],i,d7=>(some (0,((i:Int),d7)))
 |x::k,i,d7=>(if(0<=x.aK) then(if(x.aK<(((Int.toNat ((((a0.aA.getD (Int.toNat a2) default).aL).aG).length:Int)):Nat):Int)) then(if(0<=x.aK) then(if(x.aK<(((Int.toNat ((((a0.aA.getD (Int.toNat a2) default).aL).aG).length:Int)):Nat):Int)) then(Jp L o17 a3 a2 a0 k (i+1) (d7.set (Int.toNat (x.aK)) (Bs ((d7.getD (Int.toNat (x.aK)) default)+1))))else none)else none)else none)else none)
theorem Axb(L:Nat)(o17:Nat×List Ah×Int×List Int×List Int×List Int)(a3:Int)(a2:Int)(a0:Ac)(n:Nat)(hl:o17.2.1.length<=maxLen)(hn:o17.2.1.length<n):∀(d7:List Int),Jf L o17 a3 a2 a0 n 0 d7=Jp L o17 a3 a2 a0 o17.2.1 0 d7:=lQ (λk i n=>∀(d7:List Int),Jf L o17 a3 a2 a0 n (i:Int) d7=Jp L o17 a3 a2 a0 k i d7) hl hn (λn i h d7=>by simp only[Jf,We,Jp,Dr h,aN,aB,aC]) (λn i x k h hx ih d7=>by simp only[Jf,We,Jp,Dn h,Ll h,hx,Az h hl,ih,aN,aB,aC])
def Io(L:Nat)(a0:List Int)(a1:List Int):List Int->Nat->Bool->Option (Nat×Bool×Int)
 | [],i,Al=>(some (1,(Al,(i:Int))))
 |x::k,i,Al=>(if((i:Int)<(a1.length:Int)) then(bif (x != (a1.getD (Int.toNat (i:Int)) default)) then(some (0,(false,(i:Int))))
 else(Io L a0 a1 k (i+1) Al))else none)
theorem Avb(L:Nat)(a0:List Int)(a1:List Int)(n:Nat)(hl:a0.length<=maxLen)(hn:a0.length<n):∀(Al:Bool),Ij L a0 a1 n Al 0=Io L a0 a1 a0 0 Al:=lQ (λk i n=>∀(Al:Bool),Ij L a0 a1 n Al (i:Int)=Io L a0 a1 k i Al) hl hn (λn i h Al=>by simp only[Ij,T8,Io,Dr h,aN,aB,aC]) (λn i x k h hx ih Al=>by simp only[Ij,T8,Io,Dn h,Ll h,hx,Az h hl,ih,aN,aB,aC])
def Ip(L:Nat)(a0:List Ao)(a1:List Ao):List Ao->Nat->Bool->Option (Nat×Bool×Int)
 | [],i,Al=>(some (1,(Al,(i:Int))))
 |x::k,i,Al=>(if((i:Int)<(a1.length:Int)) then(Option.bind (I5 L x (a1.getD (Int.toNat (i:Int)) default)) λr1=>
 (bif (!r1) then(some (0,(false,(i:Int))))
 else(Ip L a0 a1 k (i+1) Al)))else none)
theorem Avc(L:Nat)(a0:List Ao)(a1:List Ao)(n:Nat)(hl:a0.length<=maxLen)(hn:a0.length<n):∀(Al:Bool),Ik L a0 a1 n Al 0=Ip L a0 a1 a0 0 Al:=lQ (λk i n=>∀(Al:Bool),Ik L a0 a1 n Al (i:Int)=Ip L a0 a1 k i Al) hl hn (λn i h Al=>by simp only[Ik,T9,Ip,Dr h,aN,aB,aC]) (λn i x k h hx ih Al=>by simp only[Ik,T9,Ip,Dn h,Ll h,hx,Az h hl,ih,aN,aB,aC])
end Go.Proofs.YthjhkpgonleelaaGreatDoor.Ev
