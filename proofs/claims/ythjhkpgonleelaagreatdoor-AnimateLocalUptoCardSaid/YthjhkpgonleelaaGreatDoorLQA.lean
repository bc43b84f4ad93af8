import Derived.Test.YthjhkpgonleelaaGreatDoorLG1
import Derived.Test.YthjhkpgonleelaaGreatDoorLFW
import Derived.Test.YthjhkpgonleelaaGreatDoorLG2
import Derived.Test.YthjhkpgonleelaaGreatDoorLG3
import Derived.Test.YthjhkpgonleelaaGreatDoorLG4
import Derived.Test.YthjhkpgonleelaaGreatDoorLG5
import Derived.Test.YthjhkpgonleelaaGreatDoorLG6
import Derived.Test.YthjhkpgonleelaaGreatDoorLG7
import Derived.Test.YthjhkpgonleelaaGreatDoorLG8
import Derived.Test.YthjhkpgonleelaaGreatDoorLG9
import Derived.Test.YthjhkpgonleelaaGreatDoorLG10
import Derived.Test.YthjhkpgonleelaaGreatDoorLGC
import Derived.Test.YthjhkpgonleelaaGreatDoorLG15
set_option maxRecDepth 100000
set_option maxHeartbeats 4000000
set_option linter.unusedVariables false
set_option linter.unusedSimpArgs false
set_option linter.unnecessarySimpa false
namespace Go.Proofs.YthjhkpgonleelaaGreatDoor.Ev
open Go An
theorem aC:(∀i:Nat,(0<=(i:Int))=True)/\(∀i:Nat,Int.toNat (i:Int)=i)/\(∀ {α :Type} (a b: α),cond true a b=a)/\(∀ {α :Type} (a b: α),cond false a b=b)/\(∀ {α :Type} (a b: α),(if True then a else b)=a)/\(∀h:Decidable True,@decide True h=true)/\(∀x:Ab,Ab.mk x.Op x.aF x.N x.aY=x)/\(∀x:Ab,Ab.cp x=x)/\(∀x:Ad,Ad.mk x.Op x.aF x.Of x.E x.F x.aM x.bE x.bU x.bD x.bL=x)/\(∀x:Ad,Ad.cp x=x):=⟨nn,toN,λ_ _=>rfl,λ_ _=>rfl,λ_ _=>if_true ..,decide_true,Ab.eta,Ab.cp_eq,Ad.eta,Ad.cp_eq⟩
def Dq(L:Nat)(a0:Aj):List Er->Nat->Int->Option (Nat×Int×Int)
 | [],i,Ah=>(some (1,(Ah,(i:Int))))
 |x::k,i,Ah=>(Option.bind (Be L (x.At) 0 (Bu (a0.cZ-1))) λr2=>
 (bif (!r2) then(bif (!r2) then(some (0,(2,(i:Int))))
 else(bif (decide ((i:Int)>0)) then(if(0<=(Bu ((i:Int)-1))) then(if((Bu ((i:Int)-1))<(a0.aZ.length:Int)) then(bif (decide (x.At<=(a0.aZ.getD (Int.toNat (Bu ((i:Int)-1))) default).At)) then(some (0,(12,(i:Int))))
 else(Dq L a0 k (i+1) Ah))else none)else none)
 else(Dq L a0 k (i+1) Ah)))
 else(Option.bind (Be L (x.Units) 0 1000) λr3=>
 (bif (!r3) then(some (0,(2,(i:Int))))
 else(bif (decide ((i:Int)>0)) then(if(0<=(Bu ((i:Int)-1))) then(if((Bu ((i:Int)-1))<(a0.aZ.length:Int)) then(bif (decide (x.At<=(a0.aZ.getD (Int.toNat (Bu ((i:Int)-1))) default).At)) then(some (0,(12,(i:Int))))
 else(Dq L a0 k (i+1) Ah))else none)else none)
 else(Dq L a0 k (i+1) Ah))))))
theorem Arf(L:Nat)(a0:Aj)(n:Nat)(hl:a0.aZ.length<=maxLen)(hn:a0.aZ.length<n):∀(Ah:Int),Hb L a0 n Ah 0=Dq L a0 a0.aZ 0 Ah:=lQ (λk i n=>∀(Ah:Int),Hb L a0 n Ah (i:Int)=Dq L a0 k i Ah) hl hn (λn i h Ah=>by simp only[Hb,Qe,Dq,D3 h,aN,aB,aC]) (λn i x k h hx ih Ah=>by simp only[Hb,Qe,Dq,Dx h,Ly h,hx,Bb h hl,ih,aN,aB,aC])
def F0(L:Nat)(a0:List Int)(a1:List Int):List Int->Nat->Bool->Option (Nat×Bool×Int)
 | [],i,Ak=>(some (1,(Ak,(i:Int))))
 |x::k,i,Ak=>(if((i:Int)<(a1.length:Int)) then(bif (x != (a1.getD (Int.toNat (i:Int)) default)) then(some (0,(false,(i:Int))))
 else(F0 L a0 a1 k (i+1) Ak))else none)
theorem Aoi(L:Nat)(a0:List Int)(a1:List Int)(n:Nat)(hl:a0.length<=maxLen)(hn:a0.length<n):∀(Ak:Bool),Fs L a0 a1 n Ak 0=F0 L a0 a1 a0 0 Ak:=lQ (λk i n=>∀(Ak:Bool),Fs L a0 a1 n Ak (i:Int)=F0 L a0 a1 k i Ak) hl hn (λn i h Ak=>by simp only[Fs,Nc,F0,D3 h,aN,aB,aC]) (λn i x k h hx ih Ak=>by simp only[Fs,Nc,F0,Dx h,Ly h,hx,Bb h hl,ih,aN,aB,aC])
def D6(L:Nat)(a0:List Yb)(a1:Yb):List Yb->Nat->Int->Option (Nat×Int×Int)
 | [],i,Ak=>(some (1,(Ak,(i:Int))))
 |x::k,i,Ak=>(bif (a1.toList == x.toList) then(some (0,((i:Int),(i:Int))))
 else(D6 L a0 a1 k (i+1) Ak))
theorem Air(L:Nat)(a0:List Yb)(a1:Yb)(n:Nat)(hl:a0.length<=maxLen)(hn:a0.length<n):∀(Ak:Int),D4 L a0 a1 n Ak 0=D6 L a0 a1 a0 0 Ak:=lQ (λk i n=>∀(Ak:Int),D4 L a0 a1 n Ak (i:Int)=D6 L a0 a1 k i Ak) hl hn (λn i h Ak=>by simp only[D4,Jg,D6,D3 h,aN,aB,aC]) (λn i x k h hx ih Ak=>by simp only[D4,Jg,D6,Dx h,Ly h,hx,Bb h hl,ih,aN,aB,aC])
def Jb(L:Nat)(p1_0:List Int)(p1_1:Int)(p1_2:Int):List Int->Nat->Int->Option (Nat×Int×Int)
 | [],i,Ag=>(some (1,(Ag,(i:Int))))
 |x::k,i,Ag=>((λb1=>
 (bif b1 then(some (0,((i:Int),(i:Int))))
 else(Jb L p1_0 p1_1 p1_2 k (i+1) Ag))) (bif (decide (x<p1_1))then true
 else(decide (x>p1_2))))
theorem Av0(L:Nat)(p1_0:List Int)(p1_1:Int)(p1_2:Int)(n:Nat)(hl:p1_0.length<=maxLen)(hn:p1_0.length<n):∀(Ag:Int),I2 L p1_0 p1_1 p1_2 n Ag 0=Jb L p1_0 p1_1 p1_2 p1_0 0 Ag:=lQ (λk i n=>∀(Ag:Int),I2 L p1_0 p1_1 p1_2 n Ag (i:Int)=Jb L p1_0 p1_1 p1_2 k i Ag) hl hn (λn i h Ag=>by simp only[I2,Vl,Jb,D3 h,aN,aB,aC]) (λn i x k h hx ih Ag=>by simp only[I2,Vl,Jb,Dx h,Ly h,hx,Bb h hl,ih,aN,aB,aC])
def Du(L:Nat)(a0:List (List A9)):List ((List A9))->Nat->Int->Option (Nat×Int×Int)
 | [],i,Ak=>(some (0,(Ak,(i:Int))))
 |x::k,i,Ak=>(bif (decide ((Bu (Ak+(x.length:Int)))<0))then none
 else(Du L a0 k (i+1) (Bu (Ak+(x.length:Int)))))
theorem Aer(L:Nat)(a0:List (List A9))(n:Nat)(hl:a0.length<=maxLen)(hn:a0.length<n):∀(Ak:Int),C8 L a0 n Ak 0=Du L a0 a0 0 Ak:=lQ (λk i n=>∀(Ak:Int),C8 L a0 n Ak (i:Int)=Du L a0 k i Ak) hl hn (λn i h Ak=>by simp only[C8,Hh,Du,D3 h,aN,aB,aC]) (λn i x k h hx ih Ak=>by simp only[C8,Hh,Du,Dx h,Ly h,hx,Bb h hl,ih,aN,aB,aC])
def Dv(L:Nat)(a0:List (List A9)):List ((List A9))->Nat->List A9->Option (Nat×List A9×Int)
 | [],i,Gf=>(some (0,(Gf,(i:Int))))
 |x::k,i,Gf=>(if((Gf.length+x.length)*24<=140737488355328) then(if(Gf.length+x.length<=maxLen) then(Dv L a0 k (i+1) (Gf++x))else none)else none)
theorem Aes(L:Nat)(a0:List (List A9))(n:Nat)(hl:a0.length<=maxLen)(hn:a0.length<n):∀(Gf:List A9),C9 L a0 n Gf 0=Dv L a0 a0 0 Gf:=lQ (λk i n=>∀(Gf:List A9),C9 L a0 n Gf (i:Int)=Dv L a0 k i Gf) hl hn (λn i h Gf=>by simp only[C9,Hi,Dv,D3 h,aN,aB,aC]) (λn i x k h hx ih Gf=>by simp only[C9,Hi,Dv,Dx h,Ly h,hx,Bb h hl,ih,aN,aB,aC])
def Ii(F9:(List Ad)->Option Int)(L:Nat)(a0:List Ad):List Ad->Nat->Int->Option (Nat×Int×Int)
 | [],i,Ag=>(some (0,(Ag,(i:Int))))
 |x::k,i,Ag=>(Option.bind (F9 (x.bD)) λr1=>
 (Option.bind (F9 (x.bL)) λr2=>
 (Ii F9 L a0 k (i+1) (Bu (Ag+(Bu (r1+r2)))))))
theorem Ayg(F9:(List Ad)->Option Int)(L:Nat)(a0:List Ad)(n:Nat)(hl:a0.length<=maxLen)(hn:a0.length<n):∀(Ag:Int),Ko F9 L a0 n Ag 0=Ii F9 L a0 a0 0 Ag:=lQ (λk i n=>∀(Ag:Int),Ko F9 L a0 n Ag (i:Int)=Ii F9 L a0 k i Ag) hl hn (λn i h Ag=>by simp only[Ko,Xn,Ii,D3 h,aN,aB,aC]) (λn i x k h hx ih Ag=>by simp only[Ko,Xn,Ii,Dx h,Ly h,hx,Bb h hl,ih,aN,aB,aC])
def Ij(Ga:(List Ad)->Option Int)(L:Nat)(a0:List Ad):List Ad->Nat->Int->Option (Nat×Int×Int)
 | [],i,Ag=>(some (0,(Ag,(i:Int))))
 |x::k,i,Ag=>(Option.bind (Ga (x.bD)) λr1=>
 (Option.bind (Ga (x.bL)) λr2=>
 (Ij Ga L a0 k (i+1) (if(Bu (1+r2))>(if(Bu (1+r1))>Ag then(Bu (1+r1))else Ag) then(Bu (1+r2)) else(if(Bu (1+r1))>Ag then(Bu (1+r1))else Ag)))))
theorem Ayh(Ga:(List Ad)->Option Int)(L:Nat)(a0:List Ad)(n:Nat)(hl:a0.length<=maxLen)(hn:a0.length<n):∀(Ag:Int),Kq Ga L a0 n Ag 0=Ij Ga L a0 a0 0 Ag:=lQ (λk i n=>∀(Ag:Int),Kq Ga L a0 n Ag (i:Int)=Ij Ga L a0 k i Ag) hl hn (λn i h Ag=>by simp only[Kq,Xo,Ij,D3 h,aN,aB,aC]) (λn i x k h hx ih Ag=>by simp only[Kq,Xo,Ij,Dx h,Ly h,hx,Bb h hl,ih,aN,aB,aC])
def Qv(F1:Ab->Ab->Option Bool)(L:Nat)(a0:Ab)(a1:Ab):List Ab->Nat->Bool->Option (Nat×Bool×Int)
 | [],i,Ah=>(some (1,(Ah,(i:Int))))
 |x::k,i,Ah=>(if((i:Int)<(a1.aY.length:Int)) then(Option.bind (F1 x (a1.aY.getD (Int.toNat (i:Int)) default)) λr4=>
 (bif (!r4) then(some (0,(false,(i:Int))))
 else(Qv F1 L a0 a1 k (i+1) Ah)))else none)
theorem A1k(F1:Ab->Ab->Option Bool)(L:Nat)(a0:Ab)(a1:Ab)(n:Nat)(hl:a0.aY.length<=maxLen)(hn:a0.aY.length<n):∀(Ah:Bool),Mz F1 L a0 a1 n Ah 0=Qv F1 L a0 a1 a0.aY 0 Ah:=lQ (λk i n=>∀(Ah:Bool),Mz F1 L a0 a1 n Ah (i:Int)=Qv F1 L a0 a1 k i Ah) hl hn (λn i h Ah=>by simp only[Mz,g7,Qv,D3 h,aN,aB,aC]) (λn i x k h hx ih Ah=>by simp only[Mz,g7,Qv,Dx h,Ly h,hx,Bb h hl,ih,aN,aB,aC])
def Ky(Gy:Ab->Option Int)(L:Nat)(a0:Ab):List Ab->Nat->Int->Option (Nat×Int×Int)
 | [],i,Ag=>(some (0,(Ag,(i:Int))))
 |x::k,i,Ag=>(Option.bind (Gy x) λr1=>
 (Ky Gy L a0 k (i+1) (Bu (Ag+r1))))
theorem Ax4(Gy:Ab->Option Int)(L:Nat)(a0:Ab)(n:Nat)(hl:a0.aY.length<=maxLen)(hn:a0.aY.length<n):∀(Ag:Int),Kc Gy L a0 n Ag 0=Ky Gy L a0 a0.aY 0 Ag:=lQ (λk i n=>∀(Ag:Int),Kc Gy L a0 n Ag (i:Int)=Ky Gy L a0 k i Ag) hl hn (λn i h Ag=>by simp only[Kc,Xi,Ky,D3 h,aN,aB,aC]) (λn i x k h hx ih Ag=>by simp only[Kc,Xi,Ky,Dx h,Ly h,hx,Bb h hl,ih,aN,aB,aC])
def Kx(Gz:Ab->Option Int)(L:Nat)(a0:Ab):List Ab->Nat->Int->Option (Nat×Int×Int)
 | [],i,Ag=>(some (0,(Ag,(i:Int))))
 |x::k,i,Ag=>(Option.bind (Gz x) λr1=>
 (Kx Gz L a0 k (i+1) (if r1>Ag then r1 else Ag)))
theorem Ax3(Gz:Ab->Option Int)(L:Nat)(a0:Ab)(n:Nat)(hl:a0.aY.length<=maxLen)(hn:a0.aY.length<n):∀(Ag:Int),Kb Gz L a0 n Ag 0=Kx Gz L a0 a0.aY 0 Ag:=lQ (λk i n=>∀(Ag:Int),Kb Gz L a0 n Ag (i:Int)=Kx Gz L a0 k i Ag) hl hn (λn i h Ag=>by simp only[Kb,Xh,Kx,D3 h,aN,aB,aC]) (λn i x k h hx ih Ag=>by simp only[Kb,Xh,Kx,Dx h,Ly h,hx,Bb h hl,ih,aN,aB,aC])
def El(F2:Bl->Ab->Option Int)(L:Nat)(a1:Ab)(a0:Bl):List Ab->Nat->Int->Option (Nat×Int×Int)
 | [],i,Ah=>(some (1,(Ah,(i:Int))))
 |x::k,i,Ah=>(Option.bind (F2 (⟨a0.bT⟩:Bl) x) λr2=>
 (bif (r2 != 0) then(some (0,(r2,(i:Int))))
 else(El F2 L a1 a0 k (i+1) Ah)))
theorem Aps(F2:Bl->Ab->Option Int)(L:Nat)(a1:Ab)(a0:Bl)(n:Nat)(hl:a1.aY.length<=maxLen)(hn:a1.aY.length<n):∀(Ah:Int),Gm F2 L a1 a0 n Ah 0=El F2 L a1 a0 a1.aY 0 Ah:=lQ (λk i n=>∀(Ah:Int),Gm F2 L a1 a0 n Ah (i:Int)=El F2 L a1 a0 k i Ah) hl hn (λn i h Ah=>by simp only[Gm,Oi,El,D3 h,aN,aB,aC]) (λn i x k h hx ih Ah=>by simp only[Gm,Oi,El,Dx h,Ly h,hx,Bb h hl,ih,aN,aB,aC])
def Ik(L:Nat)(a0:Ad)(a1:Bs):List Ab->Nat->Int->Option (Nat×Int×Int)
 | [],i,D7=>(some (1,(D7,(i:Int))))
 |x::k,i,D7=>(Option.bind (Rv L x) λr6=>
 (bif (r6 != 0) then(some (0,(r6,(i:Int))))
 else(Ik L a0 a1 k (i+1) D7)))
theorem Ayj(L:Nat)(a0:Ad)(a1:Bs)(n:Nat)(hl:a0.aM.length<=maxLen)(hn:a0.aM.length<n):∀(D7:Int),Ku L a0 a1 n D7 0=Ik L a0 a1 a0.aM 0 D7:=lQ (λk i n=>∀(D7:Int),Ku L a0 a1 n D7 (i:Int)=Ik L a0 a1 k i D7) hl hn (λn i h D7=>by simp only[Ku,Xq,Ik,D3 h,aN,aB,aC]) (λn i x k h hx ih D7=>by simp only[Ku,Xq,Ik,Dx h,Ly h,hx,Bb h hl,ih,aN,aB,aC])
def K1(Gb:(List Ad)->Option Int)(L:Nat)(a0:List Ad):List Ad->Nat->Int->Option (Nat×Int×Int)
 | [],i,Ah=>(some (1,(Ah,(i:Int))))
 |x::k,i,Ah=>(Option.bind (Aej L (x.Op)) λr1=>
 (Option.bind (bif (!r1.2) then(some true)
 else(Option.bind (Aei L x r1.1) λr3=>
 (some (!r3)))) λb2=>
 (bif b2 then(some (0,(1,(i:Int))))
 else(Option.bind (Zn L x r1.1) λr4=>
 (bif (r4 != 0) then(some (0,(r4,(i:Int))))
 else(Option.bind (Gb (x.bD)) λr5=>
 (bif (r5 != 0) then(some (0,(r5,(i:Int))))
 else(Option.bind (Gb (x.bL)) λr6=>
 (bif (r6 != 0) then(some (0,(r6,(i:Int))))
 else(K1 Gb L a0 k (i+1) Ah))))))))))
theorem Ayi(Gb:(List Ad)->Option Int)(L:Nat)(a0:List Ad)(n:Nat)(hl:a0.length<=maxLen)(hn:a0.length<n):∀(Ah:Int),Kr Gb L a0 n Ah 0=K1 Gb L a0 a0 0 Ah:=lQ (λk i n=>∀(Ah:Int),Kr Gb L a0 n Ah (i:Int)=K1 Gb L a0 k i Ah) hl hn (λn i h Ah=>by simp only[Kr,Xp,K1,D3 h,aN,aB,aC]) (λn i x k h hx ih Ah=>by simp only[Kr,Xp,K1,Dx h,Ly h,hx,Bb h hl,ih,aN,aB,aC])
def D5(L:Nat)(r2:List A9)(a0:Al):List A9->Nat->Int->List Yb->List Bool->Option (Nat×Int×Int×List Yb×List Bool)
 | [],i,Ah,Bq,Ee=>(some (1,(Ah,(i:Int),Bq,Ee)))
 |x::k,i,Ah,Bq,Ee=>(Option.bind (Iw L (x.aF) a0 x Bq Ee) λo7=>
 (bif (o7.1 != 0) then(some (0,(o7.1,(i:Int),o7.2.1,o7.2.2)))
 else(Option.bind (Jf L (x.bM)) λr8=>
 (bif (!r8) then(some (0,(1,(i:Int),o7.2.1,o7.2.2)))
 else(D5 L r2 a0 k (i+1) Ah o7.2.1 o7.2.2)))))
theorem Ash(L:Nat)(r2:List A9)(a0:Al)(n:Nat)(hl:r2.length<=maxLen)(hn:r2.length<n):∀(Ah:Int) (Bq:List Yb) (Ee:List Bool),Hp L r2 a0 n Ah 0 Bq Ee=D5 L r2 a0 r2 0 Ah Bq Ee:=lQ (λk i n=>∀(Ah:Int) (Bq:List Yb) (Ee:List Bool),Hp L r2 a0 n Ah (i:Int) Bq Ee=D5 L r2 a0 k i Ah Bq Ee) hl hn (λn i h Ah Bq Ee=>by simp only[Hp,Yx,Sg,Sc,D5,D3 h,aN,aB,aC]) (λn i x k h hx ih Ah Bq Ee=>by simp only[Hp,Yx,Sg,Sc,D5,Dx h,Ly h,hx,Bb h hl,ih,aN,aB,aC])
def Hq(L:Nat)(p1_0:List Al)(p1_1:Aa)(p1_2:Yb):List Al->Nat->Int->Option (Nat×Int×Int)
 | [],i,Ag=>(some (1,(Ag,(i:Int))))
 |x::k,i,Ag=>(bif (x.aF.toList == p1_2.toList) then(some (0,((i:Int),(i:Int))))
 else(Hq L p1_0 p1_1 p1_2 k (i+1) Ag))
theorem Asg(L:Nat)(p1_0:List Al)(p1_1:Aa)(p1_2:Yb)(n:Nat)(hl:p1_0.length<=maxLen)(hn:p1_0.length<n):∀(Ag:Int),Hn L p1_0 p1_1 p1_2 n Ag 0=Hq L p1_0 p1_1 p1_2 p1_0 0 Ag:=lQ (λk i n=>∀(Ag:Int),Hn L p1_0 p1_1 p1_2 n Ag (i:Int)=Hq L p1_0 p1_1 p1_2 k i Ag) hl hn (λn i h Ag=>by simp only[Hn,R5,Hq,D3 h,aN,aB,aC]) (λn i x k h hx ih Ag=>by simp only[Hn,R5,Hq,Dx h,Ly h,hx,Bb h hl,ih,aN,aB,aC])
def Hu(L:Nat)(a0:Aa)(r1:Int)(a1:Bv):List Int->Nat->Int->Option (Nat×Int×Int)
 | [],i,Ah=>(some (1,(Ah,(i:Int))))
 |x::k,i,Ah=>(if((i:Int)<((((a0.aD.getD (Int.toNat r1) default).aI).length:Nat):Int)) then(Option.bind (Rw L ((((a0.aD.getD (Int.toNat r1) default).aI).getD (Int.toNat (i:Int)) default).bM) x) λr2=>
 (bif (!r2) then(some (0,(2,(i:Int))))
 else(Hu L a0 r1 a1 k (i+1) Ah)))else none)
theorem Av4(L:Nat)(a0:Aa)(r1:Int)(a1:Bv)(n:Nat)(hl:a1.aM.length<=maxLen)(hn:a1.aM.length<n):∀(Ah:Int),I6 L a0 r1 a1 n Ah 0=Hu L a0 r1 a1 a1.aM 0 Ah:=lQ (λk i n=>∀(Ah:Int),I6 L a0 r1 a1 n Ah (i:Int)=Hu L a0 r1 a1 k i Ah) hl hn (λn i h Ah=>by simp only[I6,Vm,Hu,D3 h,aN,aB,aC]) (λn i x k h hx ih Ah=>by simp only[I6,Vm,Hu,Dx h,Ly h,hx,Bb h hl,ih,aN,aB,aC])
def K0(L:Nat)(p1_0:List Ar)(p1_1:Aa)(p1_2:Bd):List Ar->Nat->Int->Option (Nat×Int×Int)
 | [],i,Ag=>(some (1,(Ag,(i:Int))))
 |x::k,i,Ag=>(bif (x.aF.toList == p1_2.aF.toList) then(some (0,((i:Int),(i:Int))))
 else(K0 L p1_0 p1_1 p1_2 k (i+1) Ag))
theorem Ayf(L:Nat)(p1_0:List Ar)(p1_1:Aa)(p1_2:Bd)(n:Nat)(hl:p1_0.length<=maxLen)(hn:p1_0.length<n):∀(Ag:Int),Kn L p1_0 p1_1 p1_2 n Ag 0=K0 L p1_0 p1_1 p1_2 p1_0 0 Ag:=lQ (λk i n=>∀(Ag:Int),Kn L p1_0 p1_1 p1_2 n Ag (i:Int)=K0 L p1_0 p1_1 p1_2 k i Ag) hl hn (λn i h Ag=>by simp only[Kn,Xm,K0,D3 h,aN,aB,aC]) (λn i x k h hx ih Ag=>by simp only[Kn,Xm,K0,Dx h,Ly h,hx,Bb h hl,ih,aN,aB,aC])
def Nt(L:Nat)(p11_0:List Bd)(p11_1:Aa)(p11_2:List Yb)(p11_3:List Bool)(p11_4:Bh)(p11_5:Bh):List Bd->Nat->Int->Option (Nat×Int×Int)
 | [],i,Bz=>(some (1,(Bz,(i:Int))))
 |x::k,i,Bz=>(Option.bind (Vb L p11_1 x) λr6=>
 (bif (r6 != 0) then(some (0,(r6,(i:Int))))
 else(Nt L p11_0 p11_1 p11_2 p11_3 p11_4 p11_5 k (i+1) Bz)))
theorem Ax7(L:Nat)(p11_0:List Bd)(p11_1:Aa)(p11_2:List Yb)(p11_3:List Bool)(p11_4:Bh)(p11_5:Bh)(n:Nat)(hl:p11_0.length<=maxLen)(hn:p11_0.length<n):∀(Bz:Int),Kf L p11_0 p11_1 p11_2 p11_3 p11_4 p11_5 n Bz 0=Nt L p11_0 p11_1 p11_2 p11_3 p11_4 p11_5 p11_0 0 Bz:=lQ (λk i n=>∀(Bz:Int),Kf L p11_0 p11_1 p11_2 p11_3 p11_4 p11_5 n Bz (i:Int)=Nt L p11_0 p11_1 p11_2 p11_3 p11_4 p11_5 k i Bz) hl hn (λn i h Bz=>by simp only[Kf,Xk,Nt,D3 h,aN,aB,aC]) (λn i x k h hx ih Bz=>by simp only[Kf,Xk,Nt,Dx h,Ly h,hx,Bb h hl,ih,aN,aB,aC])
def Ns(L:Nat)(p1_0:List Bh)(p1_1:Aa):List Bh->Nat->Int->List Yb->List Bool->Option (Nat×Int×Int×List Yb×List Bool)
 | [],i,Ah,C1,C2=>(some (1,(Ah,(i:Int),C1,C2)))
 |x::k,i,Ah,C1,C2=>(Option.bind (Nr L x p1_1 C1 C2 x) λo10=>
 (bif (o10.1 != 0) then(some (0,(o10.1,(i:Int),o10.2.1,o10.2.2)))
 else(Ns L p1_0 p1_1 k (i+1) Ah o10.2.1 o10.2.2)))
theorem Ax6(L:Nat)(p1_0:List Bh)(p1_1:Aa)(n:Nat)(hl:p1_0.length<=maxLen)(hn:p1_0.length<n):∀(Ah:Int) (C1:List Yb) (C2:List Bool),Ke L p1_0 p1_1 n Ah 0 C1 C2=Ns L p1_0 p1_1 p1_0 0 Ah C1 C2:=lQ (λk i n=>∀(Ah:Int) (C1:List Yb) (C2:List Bool),Ke L p1_0 p1_1 n Ah (i:Int) C1 C2=Ns L p1_0 p1_1 k i Ah C1 C2) hl hn (λn i h Ah C1 C2=>by simp only[Ke,Afh,Wf,Vx,Ns,D3 h,aN,aB,aC]) (λn i x k h hx ih Ah C1 C2=>by simp only[Ke,Afh,Wf,Vx,Ns,Dx h,Ly h,hx,Bb h hl,ih,aN,aB,aC])
def Nu(L:Nat)(p41_0:List Aw)(p41_1:Aa):List Aw->Nat->Int->List Yb->List Bool->Option (Nat×Int×Int×List Yb×List Bool)
 | [],i,Ah,C1,C2=>(some (1,(Ah,(i:Int),C1,C2)))
 |x::k,i,Ah,C1,C2=>(Option.bind (L2 L x p41_1 C1 C2 x) λo8=>
 (bif (o8.1 != 0) then(some (0,(o8.1,(i:Int),o8.2.1,o8.2.2)))
 else(Nu L p41_0 p41_1 k (i+1) Ah o8.2.1 o8.2.2)))
theorem Ax8(L:Nat)(p41_0:List Aw)(p41_1:Aa)(n:Nat)(hl:p41_0.length<=maxLen)(hn:p41_0.length<n):∀(Ah:Int) (C1:List Yb) (C2:List Bool),Kg L p41_0 p41_1 n Ah 0 C1 C2=Nu L p41_0 p41_1 p41_0 0 Ah C1 C2:=lQ (λk i n=>∀(Ah:Int) (C1:List Yb) (C2:List Bool),Kg L p41_0 p41_1 n Ah (i:Int) C1 C2=Nu L p41_0 p41_1 k i Ah C1 C2) hl hn (λn i h Ah C1 C2=>by simp only[Kg,Afi,Wh,V1,Nu,D3 h,aN,aB,aC]) (λn i x k h hx ih Ah C1 C2=>by simp only[Kg,Afi,Wh,V1,Nu,Dx h,Ly h,hx,Bb h hl,ih,aN,aB,aC])
def Nv(L:Nat)(p48_0:List Aj)(p48_1:Aa):List Aj->Nat->Int->List Yb->List Bool->Option (Nat×Int×Int×List Yb×List Bool)
 | [],i,Bz,Q0,Ra=>(some (1,(Bz,(i:Int),Q0,Ra)))
 |x::k,i,Bz,Q0,Ra=>(Option.bind (L3 L x p48_1 Q0 Ra x) λo19=>
 (bif (o19.1 != 0) then(some (0,(o19.1,(i:Int),o19.2.1,o19.2.2)))
 else(Nv L p48_0 p48_1 k (i+1) Bz o19.2.1 o19.2.2)))
theorem Ax9(L:Nat)(p48_0:List Aj)(p48_1:Aa)(n:Nat)(hl:p48_0.length<=maxLen)(hn:p48_0.length<n):∀(Bz:Int) (Q0:List Yb) (Ra:List Bool),Kh L p48_0 p48_1 n Bz 0 Q0 Ra=Nv L p48_0 p48_1 p48_0 0 Bz Q0 Ra:=lQ (λk i n=>∀(Bz:Int) (Q0:List Yb) (Ra:List Bool),Kh L p48_0 p48_1 n Bz (i:Int) Q0 Ra=Nv L p48_0 p48_1 k i Bz Q0 Ra) hl hn (λn i h Bz Q0 Ra=>by simp only[Kh,Afj,Wi,V2,Nv,D3 h,aN,aB,aC]) (λn i x k h hx ih Bz Q0 Ra=>by simp only[Kh,Afj,Wi,V2,Nv,Dx h,Ly h,hx,Bb h hl,ih,aN,aB,aC])
def Nw(L:Nat)(p55_0:List Ar)(p55_1:Aa):List Ar->Nat->Int->List Yb->List Bool->Option (Nat×Int×Int×List Yb×List Bool)
 | [],i,D7,E7,Rb=>(some (1,(D7,(i:Int),E7,Rb)))
 |x::k,i,D7,E7,Rb=>(Option.bind (L4 L x p55_1 E7 Rb x) λo29=>
 (bif (o29.1 != 0) then(some (0,(o29.1,(i:Int),o29.2.1,o29.2.2)))
 else(Nw L p55_0 p55_1 k (i+1) D7 o29.2.1 o29.2.2)))
theorem Aya(L:Nat)(p55_0:List Ar)(p55_1:Aa)(n:Nat)(hl:p55_0.length<=maxLen)(hn:p55_0.length<n):∀(D7:Int) (E7:List Yb) (Rb:List Bool),Ki L p55_0 p55_1 n D7 0 E7 Rb=Nw L p55_0 p55_1 p55_0 0 D7 E7 Rb:=lQ (λk i n=>∀(D7:Int) (E7:List Yb) (Rb:List Bool),Ki L p55_0 p55_1 n D7 (i:Int) E7 Rb=Nw L p55_0 p55_1 k i D7 E7 Rb) hl hn (λn i h D7 E7 Rb=>by simp only[Ki,Afk,Wj,V3,Nw,D3 h,aN,aB,aC]) (λn i x k h hx ih D7 E7 Rb=>by simp only[Ki,Afk,Wj,V3,Nw,Dx h,Ly h,hx,Bb h hl,ih,aN,aB,aC])
def Nx(L:Nat)(p62_0:List Bg)(p62_1:Aa):List Bg->Nat->Int->List Yb->List Bool->Option (Nat×Int×Int×List Yb×List Bool)
 | [],i,Ma,Rc,E8=>(some (1,(Ma,(i:Int),Rc,E8)))
 |x::k,i,Ma,Rc,E8=>(Option.bind (L5 L x p62_1 Rc E8 x) λo40=>
 (bif (o40.1 != 0) then(some (0,(o40.1,(i:Int),o40.2.1,o40.2.2)))
 else(Nx L p62_0 p62_1 k (i+1) Ma o40.2.1 o40.2.2)))
theorem Ayb(L:Nat)(p62_0:List Bg)(p62_1:Aa)(n:Nat)(hl:p62_0.length<=maxLen)(hn:p62_0.length<n):∀(Ma:Int) (Rc:List Yb) (E8:List Bool),Kj L p62_0 p62_1 n Ma 0 Rc E8=Nx L p62_0 p62_1 p62_0 0 Ma Rc E8:=lQ (λk i n=>∀(Ma:Int) (Rc:List Yb) (E8:List Bool),Kj L p62_0 p62_1 n Ma (i:Int) Rc E8=Nx L p62_0 p62_1 k i Ma Rc E8) hl hn (λn i h Ma Rc E8=>by simp only[Kj,Afl,Wk,V4,Nx,D3 h,aN,aB,aC]) (λn i x k h hx ih Ma Rc E8=>by simp only[Kj,Afl,Wk,V4,Nx,Dx h,Ly h,hx,Bb h hl,ih,aN,aB,aC])
def Ny(L:Nat)(p69_0:List Yb)(p69_1:Aa):List Yb->Nat->Int->List Yb->List Bool->Option (Nat×Int×Int×List Yb×List Bool)
 | [],i,Aal,Re,Rf=>(some (1,(Aal,(i:Int),Re,Rf)))
 |x::k,i,Aal,Re,Rf=>(Option.bind (L6 L x p69_1 Re Rf) λo47=>
 (bif (o47.1 != 0) then(some (0,(o47.1,(i:Int),o47.2.1,o47.2.2)))
 else(Ny L p69_0 p69_1 k (i+1) Aal o47.2.1 o47.2.2)))
theorem Ayc(L:Nat)(p69_0:List Yb)(p69_1:Aa)(n:Nat)(hl:p69_0.length<=maxLen)(hn:p69_0.length<n):∀(Aal:Int) (Re:List Yb) (Rf:List Bool),Kk L p69_0 p69_1 n Aal 0 Re Rf=Ny L p69_0 p69_1 p69_0 0 Aal Re Rf:=lQ (λk i n=>∀(Aal:Int) (Re:List Yb) (Rf:List Bool),Kk L p69_0 p69_1 n Aal (i:Int) Re Rf=Ny L p69_0 p69_1 k i Aal Re Rf) hl hn (λn i h Aal Re Rf=>by simp only[Kk,Afm,Wl,V5,Ny,D3 h,aN,aB,aC]) (λn i x k h hx ih Aal Re Rf=>by simp only[Kk,Afm,Wl,V5,Ny,Dx h,Ly h,hx,Bb h hl,ih,aN,aB,aC])
def Nz(L:Nat)(p72_0:List Al)(p72_1:Aa):List Al->Nat->Int->List Yb->List Bool->Option (Nat×Int×Int×List Yb×List Bool)
 | [],i,Aam,Rg,Rh=>(some (1,(Aam,(i:Int),Rg,Rh)))
 |x::k,i,Aam,Rg,Rh=>(Option.bind (L7 L x p72_1 Rg Rh x) λo60=>
 (bif (o60.1 != 0) then(some (0,(o60.1,(i:Int),o60.2.1,o60.2.2)))
 else(Nz L p72_0 p72_1 k (i+1) Aam o60.2.1 o60.2.2)))
theorem Ayd(L:Nat)(p72_0:List Al)(p72_1:Aa)(n:Nat)(hl:p72_0.length<=maxLen)(hn:p72_0.length<n):∀(Aam:Int) (Rg:List Yb) (Rh:List Bool),Kl L p72_0 p72_1 n Aam 0 Rg Rh=Nz L p72_0 p72_1 p72_0 0 Aam Rg Rh:=lQ (λk i n=>∀(Aam:Int) (Rg:List Yb) (Rh:List Bool),Kl L p72_0 p72_1 n Aam (i:Int) Rg Rh=Nz L p72_0 p72_1 k i Aam Rg Rh) hl hn (λn i h Aam Rg Rh=>by simp only[Kl,Afn,T3,Tv,Nz,D3 h,aN,aB,aC]) (λn i x k h hx ih Aam Rg Rh=>by simp only[Kl,Afn,T3,Tv,Nz,Dx h,Ly h,hx,Bb h hl,ih,aN,aB,aC])
def N0(L:Nat)(p79_0:List Bv)(p79_1:Aa)(p79_2:List Yb)(p79_3:List Bool):List Bv->Nat->Int->Option (Nat×Int×Int)
 | [],i,Apv=>(some (1,(Apv,(i:Int))))
 |x::k,i,Apv=>(Option.bind (Sz L p79_1 x) λr63=>
 (bif (r63 != 0) then(some (0,(r63,(i:Int))))
 else(N0 L p79_0 p79_1 p79_2 p79_3 k (i+1) Apv)))
theorem Aye(L:Nat)(p79_0:List Bv)(p79_1:Aa)(p79_2:List Yb)(p79_3:List Bool)(n:Nat)(hl:p79_0.length<=maxLen)(hn:p79_0.length<n):∀(Apv:Int),Km L p79_0 p79_1 p79_2 p79_3 n Apv 0=N0 L p79_0 p79_1 p79_2 p79_3 p79_0 0 Apv:=lQ (λk i n=>∀(Apv:Int),Km L p79_0 p79_1 p79_2 p79_3 n Apv (i:Int)=N0 L p79_0 p79_1 p79_2 p79_3 k i Apv) hl hn (λn i h Apv=>by simp only[Km,Xl,N0,D3 h,aN,aB,aC]) (λn i x k h hx ih Apv=>by simp only[Km,Xl,N0,Dx h,Ly h,hx,Bb h hl,ih,aN,aB,aC])
def Kz(L:Nat)(p1_0:List Aa)(p1_1:Ai)(p1_2:Yb):List Aa->Nat->Int->Option (Nat×Int×Int)
 | [],i,Ag=>(some (1,(Ag,(i:Int))))
 |x::k,i,Ag=>(bif (x.aF.toList == p1_2.toList) then(some (0,((i:Int),(i:Int))))
 else(Kz L p1_0 p1_1 p1_2 k (i+1) Ag))
theorem Ax5(L:Nat)(p1_0:List Aa)(p1_1:Ai)(p1_2:Yb)(n:Nat)(hl:p1_0.length<=maxLen)(hn:p1_0.length<n):∀(Ag:Int),Kd L p1_0 p1_1 p1_2 n Ag 0=Kz L p1_0 p1_1 p1_2 p1_0 0 Ag:=lQ (λk i n=>∀(Ag:Int),Kd L p1_0 p1_1 p1_2 n Ag (i:Int)=Kz L p1_0 p1_1 p1_2 k i Ag) hl hn (λn i h Ag=>by simp only[Kd,Xj,Kz,D3 h,aN,aB,aC]) (λn i x k h hx ih Ag=>by simp only[Kd,Xj,Kz,Dx h,Ly h,hx,Bb h hl,ih,aN,aB,aC])
def Ht(L:Nat)(p1_0:List B9)(p1_1:Ai):List B9->Nat->Int->List Bo->List Bool->Option (Nat×Int×Int×List Bo×List Bool)
 | [],i,Ah,Bq,Ee=>(some (1,(Ah,(i:Int),Bq,Ee)))
 |x::k,i,Ah,Bq,Ee=>(Option.bind (Qq L x p1_1 Bq Ee x) λo8=>
 (bif (o8.1 != 0) then(some (0,(o8.1,(i:Int),o8.2.1,o8.2.2)))
 else(Ht L p1_0 p1_1 k (i+1) Ah o8.2.1 o8.2.2)))
theorem Av3(L:Nat)(p1_0:List B9)(p1_1:Ai)(n:Nat)(hl:p1_0.length<=maxLen)(hn:p1_0.length<n):∀(Ah:Int) (Bq:List Bo) (Ee:List Bool),I5 L p1_0 p1_1 n Ah 0 Bq Ee=Ht L p1_0 p1_1 p1_0 0 Ah Bq Ee:=lQ (λk i n=>∀(Ah:Int) (Bq:List Bo) (Ee:List Bool),I5 L p1_0 p1_1 n Ah (i:Int) Bq Ee=Ht L p1_0 p1_1 k i Ah Bq Ee) hl hn (λn i h Ah Bq Ee=>by simp only[I5,Ace,Wg,Vz,Ht,D3 h,aN,aB,aC]) (λn i x k h hx ih Ah Bq Ee=>by simp only[I5,Ace,Wg,Vz,Ht,Dx h,Ly h,hx,Bb h hl,ih,aN,aB,aC])
def L8(L:Nat)(p1_0:List Aw)(p1_1:Ai):List Aw->Nat->Int->List Yb->List Bool->Option (Nat×Int×Int×List Yb×List Bool)
 | [],i,Ah,Bq,Ee=>(some (1,(Ah,(i:Int),Bq,Ee)))
 |x::k,i,Ah,Bq,Ee=>(Option.bind (L1 L x p1_1 Bq Ee x) λo9=>
 (bif (o9.1 != 0) then(some (0,(o9.1,(i:Int),o9.2.1,o9.2.2)))
 else(L8 L p1_0 p1_1 k (i+1) Ah o9.2.1 o9.2.2)))
theorem Av1(L:Nat)(p1_0:List Aw)(p1_1:Ai)(n:Nat)(hl:p1_0.length<=maxLen)(hn:p1_0.length<n):∀(Ah:Int) (Bq:List Yb) (Ee:List Bool),I3 L p1_0 p1_1 n Ah 0 Bq Ee=L8 L p1_0 p1_1 p1_0 0 Ah Bq Ee:=lQ (λk i n=>∀(Ah:Int) (Bq:List Yb) (Ee:List Bool),I3 L p1_0 p1_1 n Ah (i:Int) Bq Ee=L8 L p1_0 p1_1 k i Ah Bq Ee) hl hn (λn i h Ah Bq Ee=>by simp only[I3,Acb,Wd,Vw,L8,D3 h,aN,aB,aC]) (λn i x k h hx ih Ah Bq Ee=>by simp only[I3,Acb,Wd,Vw,L8,Dx h,Ly h,hx,Bb h hl,ih,aN,aB,aC])
def L9(L:Nat)(p8_0:List Aa)(p8_1:Ai)(p8_2:List Yb)(p8_3:List Bool):List Aa->Nat->Int->List Yb->List Bool->Option (Nat×Int×Int×List Yb×List Bool)
 | [],i,Bz,Qy,Qz=>(some (1,(Bz,(i:Int),Qy,Qz)))
 |x::k,i,Bz,Qy,Qz=>(Option.bind (J5 L x p8_1 p8_2 p8_3 Qy Qz x) λo18=>
 (bif (o18.1 != 0) then(some (0,(o18.1,(i:Int),o18.2.1,o18.2.2)))
 else(L9 L p8_0 p8_1 p8_2 p8_3 k (i+1) Bz o18.2.1 o18.2.2)))
theorem Av2(L:Nat)(p8_0:List Aa)(p8_1:Ai)(p8_2:List Yb)(p8_3:List Bool)(n:Nat)(hl:p8_0.length<=maxLen)(hn:p8_0.length<n):∀(Bz:Int) (Qy:List Yb) (Qz:List Bool),I4 L p8_0 p8_1 p8_2 p8_3 n Bz 0 Qy Qz=L9 L p8_0 p8_1 p8_2 p8_3 p8_0 0 Bz Qy Qz:=lQ (λk i n=>∀(Bz:Int) (Qy:List Yb) (Qz:List Bool),I4 L p8_0 p8_1 p8_2 p8_3 n Bz (i:Int) Qy Qz=L9 L p8_0 p8_1 p8_2 p8_3 k i Bz Qy Qz) hl hn (λn i h Bz Qy Qz=>by simp only[I4,Acd,T1,Tt,L9,D3 h,aN,aB,aC]) (λn i x k h hx ih Bz Qy Qz=>by simp only[I4,Acd,T1,Tt,L9,Dx h,Ly h,hx,Bb h hl,ih,aN,aB,aC])
def Ja(L:Nat)(p1_1:List Al)(p1_0:List Ap)(p1_2:Az):List Ap->Nat->Bool->Option (Nat×Bool×Int)
 | [],i,Ag=>(some (1,(Ag,(i:Int))))
 |x::k,i,Ag=>(if((i:Int)<(p1_1.length:Int)) then((λb1=>
 ((λb2=>
 (bif (!b2) then(some (0,(false,(i:Int))))
 else(Ja L p1_1 p1_0 p1_2 k (i+1) Ag))) (bif b1 then((((p1_1.getD (Int.toNat (i:Int)) default).bD).length:Int) == 0)
 else false))) (bif (x.aF.toList == ((p1_1.getD (Int.toNat (i:Int)) default).aF).toList) then(x.aI == (((p1_1.getD (Int.toNat (i:Int)) default).aI).length:Int))
 else false))else none)
theorem Avz(L:Nat)(p1_1:List Al)(p1_0:List Ap)(p1_2:Az)(n:Nat)(hl:p1_0.length<=maxLen)(hn:p1_0.length<n):∀(Ag:Bool),I1 L p1_1 p1_0 p1_2 n Ag 0=Ja L p1_1 p1_0 p1_2 p1_0 0 Ag:=lQ (λk i n=>∀(Ag:Bool),I1 L p1_1 p1_0 p1_2 n Ag (i:Int)=Ja L p1_1 p1_0 p1_2 k i Ag) hl hn (λn i h Ag=>by simp only[I1,Vk,Ja,D3 h,aN,aB,aC]) (λn i x k h hx ih Ag=>by simp only[I1,Vk,Ja,Dx h,Ly h,hx,Bb h hl,ih,aN,aB,aC])
def Dp(L:Nat)(a0:Ac):List Dr->Nat->Int->List Ea->List Bool->Option (Nat×Int×Int×List Ea×List Bool)
 | [],i,Ah,Dg,Bq=>(some (1,(Ah,(i:Int),Dg,Bq)))
 |x::k,i,Ah,Dg,Bq=>((λb1=>
 ((λb2=>
 (bif b2 then(bif b2 then(some (0,(2,(i:Int),Dg,Bq)))
 else(fko (Dg.findIdx? λb=>(x.aV == b.a0 && (x.To == b.a1))) (λi3=>(bif (Bq.getD i3 default) then(some (0,(4,(i:Int),Dg,Bq)))
 else(fko (Dg.findIdx? λb=>(x.aV == b.a0 && (x.To == b.a1))) (λi4=>(Dp L a0 k (i+1) Ah Dg (Bq.set i4 true))) (Dp L a0 k (i+1) Ah (Dg++ [(⟨x.aV,x.To⟩:Ea)]) (Bq++ [true]))))) (fko (Dg.findIdx? λb=>(x.aV == b.a0 && (x.To == b.a1))) (λi5=>(Dp L a0 k (i+1) Ah Dg (Bq.set i5 true))) (Dp L a0 k (i+1) Ah (Dg++ [(⟨x.aV,x.To⟩:Ea)]) (Bq++ [true])))))
 else((λb6=>
 (bif b6 then(some (0,(2,(i:Int),Dg,Bq)))
 else(fko (Dg.findIdx? λb=>(x.aV == b.a0 && (x.To == b.a1))) (λi7=>(bif (Bq.getD i7 default) then(some (0,(4,(i:Int),Dg,Bq)))
 else(fko (Dg.findIdx? λb=>(x.aV == b.a0 && (x.To == b.a1))) (λi8=>(Dp L a0 k (i+1) Ah Dg (Bq.set i8 true))) (Dp L a0 k (i+1) Ah (Dg++ [(⟨x.aV,x.To⟩:Ea)]) (Bq++ [true]))))) (fko (Dg.findIdx? λb=>(x.aV == b.a0 && (x.To == b.a1))) (λi9=>(Dp L a0 k (i+1) Ah Dg (Bq.set i9 true))) (Dp L a0 k (i+1) Ah (Dg++ [(⟨x.aV,x.To⟩:Ea)]) (Bq++ [true])))))) (bif (decide (x.bR<1))then true
 else(decide (x.bR>1000000000)))))) (bif b1 then true
 else(x.aV == x.To)))) (bif (decide ((if x.To<x.aV then x.To else x.aV)<0))then true
 else(decide ((if x.To>x.aV then x.To else x.aV)>=(a0.aA.length:Int)))))
theorem A1j(L:Nat)(a0:Ac)(n:Nat)(hl:a0.aH.length<=maxLen)(hn:a0.aH.length<n):∀(Ah:Int) (Dg:List Ea) (Bq:List Bool),My L a0 n Ah 0 Dg Bq=Dp L a0 a0.aH 0 Ah Dg Bq:=lQ (λk i n=>∀(Ah:Int) (Dg:List Ea) (Bq:List Bool),My L a0 n Ah (i:Int) Dg Bq=Dp L a0 k i Ah Dg Bq) hl hn (λn i h Ah Dg Bq=>by simp only[My,g6,Dp,D3 h,aN,aB,aC]) (λn i x k h hx ih Ah Dg Bq=>by simp only[My,g6,Dp,Dx h,Ly h,hx,Bb h hl,ih,aN,aB,aC])
def P5(L:Nat)(p1_0:List Dr)(p1_1:Ac)(p1_2:Int)(p1_3:Int):List Dr->Nat->Int->Option (Nat×Int×Int)
 | [],i,Ag=>(some (1,(Ag,(i:Int))))
 |x::k,i,Ag=>((λb1=>
 (bif b1 then(some (0,((i:Int),(i:Int))))
 else(P5 L p1_0 p1_1 p1_2 p1_3 k (i+1) Ag))) (bif (x.aV == p1_2) then(x.To == p1_3)
 else false))
theorem A4k(L:Nat)(p1_0:List Dr)(p1_1:Ac)(p1_2:Int)(p1_3:Int)(n:Nat)(hl:p1_0.length<=maxLen)(hn:p1_0.length<n):∀(Ag:Int),P0 L p1_0 p1_1 p1_2 p1_3 n Ag 0=P5 L p1_0 p1_1 p1_2 p1_3 p1_0 0 Ag:=lQ (λk i n=>∀(Ag:Int),P0 L p1_0 p1_1 p1_2 p1_3 n Ag (i:Int)=P5 L p1_0 p1_1 p1_2 p1_3 k i Ag) hl hn (λn i h Ag=>by simp only[P0,Ado,P5,D3 h,aN,aB,aC]) (λn i x k h hx ih Ag=>by simp only[P0,Ado,P5,Dx h,Ly h,hx,Bb h hl,ih,aN,aB,aC])
def Ek(Bm:Av->Ab->Option Bool)(L:Nat)(p1_0:List Ab)(p1_1:Av)(p1_2:Ab):List Ab->Nat->Int->Option (Nat×Int×Int)
 | [],i,Ag=>(some (1,(Ag,(i:Int))))
 |x::k,i,Ag=>(Option.bind (Bm (⟨(⟨p1_1.bJ.aF,p1_1.bJ.aA,p1_1.bJ.aH⟩:Ac),p1_1.aS,p1_1.u_c⟩:Av) x) λr2=>
 (bif (!r2) then(some (0,((i:Int),(i:Int))))
 else(Ek Bm L p1_0 p1_1 p1_2 k (i+1) Ag)))
theorem Apr(Bm:Av->Ab->Option Bool)(L:Nat)(p1_0:List Ab)(p1_1:Av)(p1_2:Ab)(n:Nat)(hl:p1_0.length<=maxLen)(hn:p1_0.length<n):∀(Ag:Int),Gk Bm L p1_0 p1_1 p1_2 n Ag 0=Ek Bm L p1_0 p1_1 p1_2 p1_0 0 Ag:=lQ (λk i n=>∀(Ag:Int),Gk Bm L p1_0 p1_1 p1_2 n Ag (i:Int)=Ek Bm L p1_0 p1_1 p1_2 k i Ag) hl hn (λn i h Ag=>by simp only[Gk,Oh,Ek,D3 h,aN,aB,aC]) (λn i x k h hx ih Ag=>by simp only[Gk,Oh,Ek,Dx h,Ly h,hx,Bb h hl,ih,aN,aB,aC])
def D8(L:Nat)(r9:List Ab)(a0:Av)(a1:Aq):List Ab->Nat->Int->Option (Nat×Int×Int)
 | [],i,Ah=>(some (1,(Ah,(i:Int))))
 |x::k,i,Ah=>(Option.bind (Iv L x) λr10=>
 (bif (r10 != 0) then(some (0,(r10,(i:Int))))
 else(Option.bind (C5 L (⟨(⟨a0.bJ.aF,a0.bJ.aA,a0.bJ.aH⟩:Ac),a0.aS,a0.u_c⟩:Av) x) λr11=>
 (bif (!r11) then(some (0,(2,(i:Int))))
 else(D8 L r9 a0 a1 k (i+1) Ah)))))
theorem Aoh(L:Nat)(r9:List Ab)(a0:Av)(a1:Aq)(n:Nat)(hl:r9.length<=maxLen)(hn:r9.length<n):∀(Ah:Int),Cv L r9 a0 a1 n Ah 0=D8 L r9 a0 a1 r9 0 Ah:=lQ (λk i n=>∀(Ah:Int),Cv L r9 a0 a1 n Ah (i:Int)=D8 L r9 a0 a1 k i Ah) hl hn (λn i h Ah=>by simp only[Cv,Nb,D8,D3 h,aN,aB,aC]) (λn i x k h hx ih Ah=>by simp only[Cv,Nb,D8,Dx h,Ly h,hx,Bb h hl,ih,aN,aB,aC])
def Ib(L:Nat)(a2:Ap)(a0:Ac)(a1:Int):List Aq->Nat->Int->Option (Nat×Int×Int)
 | [],i,Ah=>(some (1,(Ah,(i:Int))))
 |x::k,i,Ah=>(Option.bind (Iu L (⟨(⟨a0.aF,a0.aA,a0.aH⟩:Ac),a1,a2⟩:Av) (⟨x.Op,x.A,x.B,x.C,(x.E),(x.F),x.aM,(x.bE),x.bU⟩:Aq)) λr6=>
 (bif (r6 != 0) then(some (0,(r6,(i:Int))))
 else(Ib L a2 a0 a1 k (i+1) Ah)))
theorem At4(L:Nat)(a2:Ap)(a0:Ac)(a1:Int)(n:Nat)(hl:a2.aP.length<=maxLen)(hn:a2.aP.length<n):∀(Ah:Int),H8 L a2 a0 a1 n Ah 0=Ib L a2 a0 a1 a2.aP 0 Ah:=lQ (λk i n=>∀(Ah:Int),H8 L a2 a0 a1 n Ah (i:Int)=Ib L a2 a0 a1 k i Ah) hl hn (λn i h Ah=>by simp only[H8,Tm,Ib,D3 h,aN,aB,aC]) (λn i x k h hx ih Ah=>by simp only[H8,Tm,Ib,Dx h,Ly h,hx,Bb h hl,ih,aN,aB,aC])
def Eu(L:Nat)(a0:Ac):List Az->Nat->Int->List Yb->List Bool->Option (Nat×Int×Int×List Yb×List Bool)
 | [],i,Ah,Dg,Bq=>(some (1,(Ah,(i:Int),Dg,Bq)))
 |x::k,i,Ah,Dg,Bq=>(Option.bind (Sy L (⟨a0.aF,[],[(x.aK)],[]⟩:Ai)) λr2=>
 (bif (r2 != 0) then(some (0,(r2,(i:Int),Dg,Bq)))
 else(fko (Dg.findIdx? λb=>x.aK.aF == b) (λi3=>(bif (Bq.getD i3 default) then(some (0,(4,(i:Int),Dg,Bq)))
 else(Option.bind (Ll L (⟨(x.aK),x.aD⟩:Az)) λr4=>
 (bif (!r4) then(some (0,(8,(i:Int),Dg,Bq)))
 else(fko (Dg.findIdx? λb=>x.aK.aF == b) (λi5=>(Eu L a0 k (i+1) Ah Dg (Bq.set i5 true))) (Eu L a0 k (i+1) Ah (Dg++ [x.aK.aF]) (Bq++ [true]))))))) (Option.bind (Ll L (⟨(x.aK),x.aD⟩:Az)) λr6=>
 (bif (!r6) then(some (0,(8,(i:Int),Dg,Bq)))
 else(fko (Dg.findIdx? λb=>x.aK.aF == b) (λi7=>(Eu L a0 k (i+1) Ah Dg (Bq.set i7 true))) (Eu L a0 k (i+1) Ah (Dg++ [x.aK.aF]) (Bq++ [true]))))))))
theorem Ax0(L:Nat)(a0:Ac)(n:Nat)(hl:a0.aA.length<=maxLen)(hn:a0.aA.length<n):∀(Ah:Int) (Dg:List Yb) (Bq:List Bool),J9 L a0 n Ah 0 Dg Bq=Eu L a0 a0.aA 0 Ah Dg Bq:=lQ (λk i n=>∀(Ah:Int) (Dg:List Yb) (Bq:List Bool),J9 L a0 n Ah (i:Int) Dg Bq=Eu L a0 k i Ah Dg Bq) hl hn (λn i h Ah Dg Bq=>by simp only[J9,Xf,Eu,D3 h,aN,aB,aC]) (λn i x k h hx ih Ah Dg Bq=>by simp only[J9,Xf,Eu,Dx h,Ly h,hx,Bb h hl,ih,aN,aB,aC])
def Kw(L:Nat)(Bp:Int)(a0:Ac)(o8:Nat×Int×Int×List Yb×List Bool):List Ap->Nat->Int->Option (Nat×Int×Int)
 | [],i,D7=>(some (1,(D7,(i:Int))))
 |x::k,i,D7=>(Option.bind (Qh L (⟨a0.aF,a0.aA,a0.aH⟩:Ac) Bp x) λr10=>
 (bif (r10 != 0) then(some (0,(r10,(i:Int))))
 else(Kw L Bp a0 o8 k (i+1) D7)))
theorem Ax2(L:Nat)(Bp:Int)(a0:Ac)(o8:Nat×Int×Int×List Yb×List Bool)(n:Nat)(hl:((a0.aA.getD (Int.toNat Bp) default).aD).length<=maxLen)(hn:((a0.aA.getD (Int.toNat Bp) default).aD).length<n):∀(D7:Int),Ih L Bp a0 o8 n D7 0=Kw L Bp a0 o8 ((a0.aA.getD (Int.toNat Bp) default).aD) 0 D7:=lQ (λk i n=>∀(D7:Int),Ih L Bp a0 o8 n D7 (i:Int)=Kw L Bp a0 o8 k i D7) hl hn (λn i h D7=>by simp only[Ih,Xg,Kw,D3 h,aN,aB,aC]) (λn i x k h hx ih D7=>by simp only[Ih,Xg,Kw,Dx h,Ly h,hx,Bb h hl,ih,aN,aB,aC])
def Kv(L:Nat)(a0:Ac)(o8:Nat×Int×Int×List Yb×List Bool):List Az->Nat->Int->Option (Nat×Int×Int)
 | [],i,Bz=>(some (1,(Bz,(i:Int))))
 |x::k,i,Bz=>(Option.bind (Ih L (i:Int) a0 o8 L Bz 0) λo11=>
 (Aov o11.1 [(some (0,(o11.2.1,(i:Int)))),(Kv L a0 o8 k (i+1) o11.2.1)]))
theorem Ax1(L:Nat)(a0:Ac)(o8:Nat×Int×Int×List Yb×List Bool)(n:Nat)(hl:a0.aA.length<=maxLen)(hn:a0.aA.length<n):∀(Bz:Int),Ka L a0 o8 n Bz 0=Kv L a0 o8 a0.aA 0 Bz:=lQ (λk i n=>∀(Bz:Int),Ka L a0 o8 n Bz (i:Int)=Kv L a0 o8 k i Bz) hl hn (λn i h Bz=>by simp only[Ka,Afg,Ye,Xt,Kv,D3 h,aN,aB,aC]) (λn i x k h hx ih Bz=>by simp only[Ka,Afg,Ye,Xt,Kv,Dx h,Ly h,hx,Bb h hl,ih,aN,aB,aC])
def D0(L:Nat)(a2:Int)(a3:Int)(a1:List Au)(a0:Ac):List Au->Nat->List Am->List Bool->List Int->List Int->List Int->Option (Nat×Int×List Am×List Bool×List Int×List Int×List Int)
 | [],i,Oy,Oz,O0,Gq,O1=>(some (0,((i:Int),Oy,Oz,O0,Gq,O1)))
 |x::k,i,Oy,Oz,O0,Gq,O1=>((λb1=>
 (bif b1 then(Option.bind (Hs L x x Oy Oz a3 a2 (Int.toNat (((a0.aA.getD (Int.toNat a2) default).aD).length:Int)) (Int.toNat ((((a0.aA.getD (Int.toNat a2) default).aK).aG).length:Int)) (Int.toNat ((((a0.aA.getD (Int.toNat a2) default).aK).aG).length:Int)) (Int.toNat ((((a0.aA.getD (Int.toNat a2) default).aK).aL).length:Int)) O0 Gq (List.replicate (Int.toNat ((((a0.aA.getD (Int.toNat a2) default).aK).aG).length:Int)) 0) O1) λo30=>
 (D0 L a2 a3 a1 a0 k (i+1) o30.1 o30.2.1 o30.2.2.1 o30.2.2.2.1 o30.2.2.2.2))
 else(D0 L a2 a3 a1 a0 k (i+1) Oy Oz O0 Gq O1))) (bif (x.bW == a2) then(decide (x.Time<=a3))
 else false))
theorem Apq(L:Nat)(a2:Int)(a3:Int)(a1:List Au)(a0:Ac)(n:Nat)(hl:a1.length<=maxLen)(hn:a1.length<n):∀(Oy:List Am) (Oz:List Bool) (O0:List Int) (Gq:List Int) (O1:List Int),Gj L a2 a3 a1 a0 n 0 Oy Oz O0 Gq O1=D0 L a2 a3 a1 a0 a1 0 Oy Oz O0 Gq O1:=lQ (λk i n=>∀(Oy:List Am) (Oz:List Bool) (O0:List Int) (Gq:List Int) (O1:List Int),Gj L a2 a3 a1 a0 n (i:Int) Oy Oz O0 Gq O1=D0 L a2 a3 a1 a0 k i Oy Oz O0 Gq O1) hl hn (λn i h Oy Oz O0 Gq O1=>by simp only[Gj,U0,Nj,Nh,D0,D3 h,aN,aB,aC]) (λn i x k h hx ih Oy Oz O0 Gq O1=>by simp only[Gj,U0,Nj,Nh,D0,Dx h,Ly h,hx,Bb h hl,ih,aN,aB,aC])
def P1(L:Nat)(a0:List Yb)(a1:Yb):List Yb->Nat->Int->Option (Nat×Int×Int)
 | [],i,Ak=>(some (1,(Ak,(i:Int))))
 |x::k,i,Ak=>(bif (x.toList == a1.toList) then(some (0,((i:Int),(i:Int))))
 else(P1 L a0 a1 k (i+1) Ak))
theorem A39(L:Nat)(a0:List Yb)(a1:Yb)(n:Nat)(hl:a0.length<=maxLen)(hn:a0.length<n):∀(Ak:Int),Pr L a0 a1 n Ak 0=P1 L a0 a1 a0 0 Ak:=lQ (λk i n=>∀(Ak:Int),Pr L a0 a1 n Ak (i:Int)=P1 L a0 a1 k i Ak) hl hn (λn i h Ak=>by simp only[Pr,Adc,P1,D3 h,aN,aB,aC]) (λn i x k h hx ih Ak=>by simp only[Pr,Adc,P1,Dx h,Ly h,hx,Bb h hl,ih,aN,aB,aC])
def Js(L:Nat)(a0:Aa):List Aw->Nat->List Yb->Option (Nat×Int×List Yb)
 | [],i,Ws=>(some (0,((i:Int),Ws)))
 |x::k,i,Ws=>(if((0:Int)<=0) then(if(0<((10:Nat):Int)) then(if((Ws.length+ [x.aF].length)*16<=140737488355328) then(if(Ws.length+ [x.aF].length<=maxLen) then(if((0:Int)<=0) then(if(0<((10:Nat):Int)) then(Js L a0 k (i+1) (Ws++ [x.aF]))else none)else none)else none)else none)else none)else none)
theorem A09(L:Nat)(a0:Aa)(n:Nat)(hl:a0.bX.length<=maxLen)(hn:a0.bX.length<n):∀(Ws:List Yb),Mo L a0 n 0 Ws=Js L a0 a0.bX 0 Ws:=lQ (λk i n=>∀(Ws:List Yb),Mo L a0 n (i:Int) Ws=Js L a0 k i Ws) hl hn (λn i h Ws=>by simp only[Mo,Z8,Js,D3 h,aN,aB,aC]) (λn i x k h hx ih Ws=>by simp only[Mo,Z8,Js,Dx h,Ly h,hx,Bb h hl,ih,aN,aB,aC])
def Jt(L:Nat)(a0:Aa)(o1:Nat×Int×List Yb):List Aj->Nat->List Yb->Option (Nat×Int×List Yb)
 | [],i,Wt=>(some (0,((i:Int),Wt)))
 |x::k,i,Wt=>(if((0:Int)<=1) then(if(1<((10:Nat):Int)) then(if((Wt.length+ [x.aF].length)*16<=140737488355328) then(if(Wt.length+ [x.aF].length<=maxLen) then(if((0:Int)<=1) then(if(1<((10:Nat):Int)) then(Jt L a0 o1 k (i+1) (Wt++ [x.aF]))else none)else none)else none)else none)else none)else none)
theorem A1a(L:Nat)(a0:Aa)(o1:Nat×Int×List Yb)(n:Nat)(hl:a0.aG.length<=maxLen)(hn:a0.aG.length<n):∀(Wt:List Yb),Mp L a0 o1 n 0 Wt=Jt L a0 o1 a0.aG 0 Wt:=lQ (λk i n=>∀(Wt:List Yb),Mp L a0 o1 n (i:Int) Wt=Jt L a0 o1 k i Wt) hl hn (λn i h Wt=>by simp only[Mp,Z9,Jt,D3 h,aN,aB,aC]) (λn i x k h hx ih Wt=>by simp only[Mp,Z9,Jt,Dx h,Ly h,hx,Bb h hl,ih,aN,aB,aC])
def Ju(L:Nat)(a0:Aa)(o1:Nat×Int×List Yb)(o2:Nat×Int×List Yb):List Ar->Nat->List Yb->Option (Nat×Int×List Yb)
 | [],i,E7=>(some (0,((i:Int),E7)))
 |x::k,i,E7=>(if((0:Int)<=2) then(if(2<((10:Nat):Int)) then(if((E7.length+ [x.aF].length)*16<=140737488355328) then(if(E7.length+ [x.aF].length<=maxLen) then(if((0:Int)<=2) then(if(2<((10:Nat):Int)) then(Ju L a0 o1 o2 k (i+1) (E7++ [x.aF]))else none)else none)else none)else none)else none)else none)
theorem A1b(L:Nat)(a0:Aa)(o1:Nat×Int×List Yb)(o2:Nat×Int×List Yb)(n:Nat)(hl:a0.aL.length<=maxLen)(hn:a0.aL.length<n):∀(E7:List Yb),Mq L a0 o1 o2 n 0 E7=Ju L a0 o1 o2 a0.aL 0 E7:=lQ (λk i n=>∀(E7:List Yb),Mq L a0 o1 o2 n (i:Int) E7=Ju L a0 o1 o2 k i E7) hl hn (λn i h E7=>by simp only[Mq,b0,Ju,D3 h,aN,aB,aC]) (λn i x k h hx ih E7=>by simp only[Mq,b0,Ju,Dx h,Ly h,hx,Bb h hl,ih,aN,aB,aC])
def Jv(L:Nat)(a0:Aa)(o1:Nat×Int×List Yb)(o2:Nat×Int×List Yb)(o3:Nat×Int×List Yb):List Bg->Nat->List Yb->Option (Nat×Int×List Yb)
 | [],i,E8=>(some (0,((i:Int),E8)))
 |x::k,i,E8=>(if((0:Int)<=3) then(if(3<((10:Nat):Int)) then(if((E8.length+ [x.aF].length)*16<=140737488355328) then(if(E8.length+ [x.aF].length<=maxLen) then(if((0:Int)<=3) then(if(3<((10:Nat):Int)) then(Jv L a0 o1 o2 o3 k (i+1) (E8++ [x.aF]))else none)else none)else none)else none)else none)else none)
theorem A1c(L:Nat)(a0:Aa)(o1:Nat×Int×List Yb)(o2:Nat×Int×List Yb)(o3:Nat×Int×List Yb)(n:Nat)(hl:a0.bN.length<=maxLen)(hn:a0.bN.length<n):∀(E8:List Yb),Mr L a0 o1 o2 o3 n 0 E8=Jv L a0 o1 o2 o3 a0.bN 0 E8:=lQ (λk i n=>∀(E8:List Yb),Mr L a0 o1 o2 o3 n (i:Int) E8=Jv L a0 o1 o2 o3 k i E8) hl hn (λn i h E8=>by simp only[Mr,d4,Jv,D3 h,aN,aB,aC]) (λn i x k h hx ih E8=>by simp only[Mr,d4,Jv,Dx h,Ly h,hx,Bb h hl,ih,aN,aB,aC])
def Jw(L:Nat)(a0:Aa)(o1:Nat×Int×List Yb)(o2:Nat×Int×List Yb)(o3:Nat×Int×List Yb)(o4:Nat×Int×List Yb):List Al->Nat->List Yb->Option (Nat×Int×List Yb)
 | [],i,Wu=>(some (0,((i:Int),Wu)))
 |x::k,i,Wu=>(if((0:Int)<=9) then(if(9<((10:Nat):Int)) then(if((Wu.length+ [x.aF].length)*16<=140737488355328) then(if(Wu.length+ [x.aF].length<=maxLen) then(if((0:Int)<=9) then(if(9<((10:Nat):Int)) then(Jw L a0 o1 o2 o3 o4 k (i+1) (Wu++ [x.aF]))else none)else none)else none)else none)else none)else none)
theorem A1d(L:Nat)(a0:Aa)(o1:Nat×Int×List Yb)(o2:Nat×Int×List Yb)(o3:Nat×Int×List Yb)(o4:Nat×Int×List Yb)(n:Nat)(hl:a0.aD.length<=maxLen)(hn:a0.aD.length<n):∀(Wu:List Yb),Ms L a0 o1 o2 o3 o4 n 0 Wu=Jw L a0 o1 o2 o3 o4 a0.aD 0 Wu:=lQ (λk i n=>∀(Wu:List Yb),Ms L a0 o1 o2 o3 o4 n (i:Int) Wu=Jw L a0 o1 o2 o3 o4 k i Wu) hl hn (λn i h Wu=>by simp only[Ms,d5,Jw,D3 h,aN,aB,aC]) (λn i x k h hx ih Wu=>by simp only[Ms,d5,Jw,Dx h,Ly h,hx,Bb h hl,ih,aN,aB,aC])
def He(L:Nat)(a0:Aj):List Er->Nat->Int->Option (Nat×Int×Int)
 | [],i,Ah=>(some (1,(Ah,(i:Int))))
 |x::k,i,Ah=>(Option.bind (Dh L (x.At) 0 (Bu (a0.cZ-1))) λr3=>
 (Option.bind (bif (!r3) then(some true)
 else(Option.bind (Dh L (x.Units) 0 1000) λr5=>
 (some (!r5)))) λb4=>
 (bif b4 then(some (0,(2,(i:Int))))
 else(bif (decide ((i:Int)>0)) then(if(0<=(Bu ((i:Int)-1))) then(if((Bu ((i:Int)-1))<(a0.aZ.length:Int)) then(bif (decide (x.At<=(a0.aZ.getD (Int.toNat (Bu ((i:Int)-1))) default).At)) then(some (0,(12,(i:Int))))
 else(He L a0 k (i+1) Ah))else none)else none)
 else(He L a0 k (i+1) Ah)))))
theorem At2(L:Nat)(a0:Aj)(n:Nat)(hl:a0.aZ.length<=maxLen)(hn:a0.aZ.length<n):∀(Ah:Int),H6 L a0 n Ah 0=He L a0 a0.aZ 0 Ah:=lQ (λk i n=>∀(Ah:Int),H6 L a0 n Ah (i:Int)=He L a0 k i Ah) hl hn (λn i h Ah=>by simp only[H6,Tk,He,D3 h,aN,aB,aC]) (λn i x k h hx ih Ah=>by simp only[H6,Tk,He,Dx h,Ly h,hx,Bb h hl,ih,aN,aB,aC])
def H9(L:Nat)(a0:List Int)(a1:List Int):List Int->Nat->Bool->Option (Nat×Bool×Int)
 | [],i,Ak=>(some (1,(Ak,(i:Int))))
 |x::k,i,Ak=>(if((i:Int)<(a1.length:Int)) then(bif (x != (a1.getD (Int.toNat (i:Int)) default)) then(some (0,(false,(i:Int))))
 else(H9 L a0 a1 k (i+1) Ak))else none)
theorem At1(L:Nat)(a0:List Int)(a1:List Int)(n:Nat)(hl:a0.length<=maxLen)(hn:a0.length<n):∀(Ak:Bool),H5 L a0 a1 n Ak 0=H9 L a0 a1 a0 0 Ak:=lQ (λk i n=>∀(Ak:Bool),H5 L a0 a1 n Ak (i:Int)=H9 L a0 a1 k i Ak) hl hn (λn i h Ak=>by simp only[H5,Tj,H9,D3 h,aN,aB,aC]) (λn i x k h hx ih Ak=>by simp only[H5,Tj,H9,Dx h,Ly h,hx,Bb h hl,ih,aN,aB,aC])
def M3(L:Nat)(a0:Bk):List Int->Nat->Int->Option (Nat×Int×Int)
 | [],i,Ah=>(some (1,(Ah,(i:Int))))
 |x::k,i,Ah=>(Option.bind (Ew L x 0 1000000000) λr1=>
 (Option.bind (bif (!r1) then(some true)
 else(if(0<=(i:Int)) then(if((i:Int)<(a0.aU.length:Int)) then(Option.bind (Ew L (a0.aU.getD (Int.toNat (i:Int)) default) 1 1000) λr3=>
 (some (!r3)))else none)else none)) λb2=>
 (bif b2 then(some (0,(2,(i:Int))))
 else(M3 L a0 k (i+1) Ah))))
theorem A02(L:Nat)(a0:Bk)(n:Nat)(hl:a0.aW.length<=maxLen)(hn:a0.aW.length<n):∀(Ah:Int),Mg L a0 n Ah 0=M3 L a0 a0.aW 0 Ah:=lQ (λk i n=>∀(Ah:Int),Mg L a0 n Ah (i:Int)=M3 L a0 k i Ah) hl hn (λn i h Ah=>by simp only[Mg,Z1,M3,D3 h,aN,aB,aC]) (λn i x k h hx ih Ah=>by simp only[Mg,Z1,M3,Dx h,Ly h,hx,Bb h hl,ih,aN,aB,aC])
def Jq(Gc:(List Ad)->Option Int)(L:Nat)(a0:List Ad):List Ad->Nat->Int->Option (Nat×Int×Int)
 | [],i,Ak=>(some (0,(Ak,(i:Int))))
 |x::k,i,Ak=>(Option.bind (Gc (x.bD)) λr1=>
 (Option.bind (Gc (x.bL)) λr2=>
 (Jq Gc L a0 k (i+1) (Bu ((Bu ((Bu (Ak+1))+r1))+r2)))))
theorem A05(Gc:(List Ad)->Option Int)(L:Nat)(a0:List Ad)(n:Nat)(hl:a0.length<=maxLen)(hn:a0.length<n):∀(Ak:Int),Mk Gc L a0 n Ak 0=Jq Gc L a0 a0 0 Ak:=lQ (λk i n=>∀(Ak:Int),Mk Gc L a0 n Ak (i:Int)=Jq Gc L a0 k i Ak) hl hn (λn i h Ak=>by simp only[Mk,Z4,Jq,D3 h,aN,aB,aC]) (λn i x k h hx ih Ak=>by simp only[Mk,Z4,Jq,Dx h,Ly h,hx,Bb h hl,ih,aN,aB,aC])
def Jr(Gd:(List Ad)->Option Int)(L:Nat)(a0:List Ad):List Ad->Nat->Int->Option (Nat×Int×Int)
 | [],i,Ak=>(some (0,(Ak,(i:Int))))
 |x::k,i,Ak=>(Option.bind (Gd (x.bD)) λr1=>
 (Option.bind (Gd (x.bL)) λr2=>
 (Jr Gd L a0 k (i+1) (if(Bu (1+r2))>(if(Bu (1+r1))>Ak then(Bu (1+r1))else Ak) then(Bu (1+r2)) else(if(Bu (1+r1))>Ak then(Bu (1+r1))else Ak)))))
theorem A06(Gd:(List Ad)->Option Int)(L:Nat)(a0:List Ad)(n:Nat)(hl:a0.length<=maxLen)(hn:a0.length<n):∀(Ak:Int),Ml Gd L a0 n Ak 0=Jr Gd L a0 a0 0 Ak:=lQ (λk i n=>∀(Ak:Int),Ml Gd L a0 n Ak (i:Int)=Jr Gd L a0 k i Ak) hl hn (λn i h Ak=>by simp only[Ml,Z5,Jr,D3 h,aN,aB,aC]) (λn i x k h hx ih Ak=>by simp only[Ml,Z5,Jr,Dx h,Ly h,hx,Bb h hl,ih,aN,aB,aC])
def M5(Gw:Ab->Option Int)(L:Nat)(a0:Ab):List Ab->Nat->Int->Option (Nat×Int×Int)
 | [],i,Ag=>(some (0,(Ag,(i:Int))))
 |x::k,i,Ag=>(Option.bind (Gw x) λr1=>
 (M5 Gw L a0 k (i+1) (Bu (Ag+r1))))
theorem A04(Gw:Ab->Option Int)(L:Nat)(a0:Ab)(n:Nat)(hl:a0.aY.length<=maxLen)(hn:a0.aY.length<n):∀(Ag:Int),Mj Gw L a0 n Ag 0=M5 Gw L a0 a0.aY 0 Ag:=lQ (λk i n=>∀(Ag:Int),Mj Gw L a0 n Ag (i:Int)=M5 Gw L a0 k i Ag) hl hn (λn i h Ag=>by simp only[Mj,Z3,M5,D3 h,aN,aB,aC]) (λn i x k h hx ih Ag=>by simp only[Mj,Z3,M5,Dx h,Ly h,hx,Bb h hl,ih,aN,aB,aC])
def M4(Gx:Ab->Option Int)(L:Nat)(a0:Ab):List Ab->Nat->Int->Option (Nat×Int×Int)
 | [],i,Ag=>(some (0,(Ag,(i:Int))))
 |x::k,i,Ag=>(Option.bind (Gx x) λr1=>
 (M4 Gx L a0 k (i+1) (if r1>Ag then r1 else Ag)))
theorem A03(Gx:Ab->Option Int)(L:Nat)(a0:Ab)(n:Nat)(hl:a0.aY.length<=maxLen)(hn:a0.aY.length<n):∀(Ag:Int),Mi Gx L a0 n Ag 0=M4 Gx L a0 a0.aY 0 Ag:=lQ (λk i n=>∀(Ag:Int),Mi Gx L a0 n Ag (i:Int)=M4 Gx L a0 k i Ag) hl hn (λn i h Ag=>by simp only[Mi,Z2,M4,D3 h,aN,aB,aC]) (λn i x k h hx ih Ag=>by simp only[Mi,Z2,M4,Dx h,Ly h,hx,Bb h hl,ih,aN,aB,aC])
def Lv(Bf:Ab->Bool->Option Int)(L:Nat)(a1:Bool)(a0:Ab):List Ab->Nat->Int->Option (Nat×Int×Int)
 | [],i,Ag=>(some (1,(Ag,(i:Int))))
 |x::k,i,Ag=>(Option.bind (Bf x a1) λr22=>
 (bif (r22 != 0) then(some (0,(r22,(i:Int))))
 else(Lv Bf L a1 a0 k (i+1) Ag)))
theorem A4a(Bf:Ab->Bool->Option Int)(L:Nat)(a1:Bool)(a0:Ab)(n:Nat)(hl:a0.aY.length<=maxLen)(hn:a0.aY.length<n):∀(Ag:Int),Ls Bf L a1 a0 n Ag 0=Lv Bf L a1 a0 a0.aY 0 Ag:=lQ (λk i n=>∀(Ag:Int),Ls Bf L a1 a0 n Ag (i:Int)=Lv Bf L a1 a0 k i Ag) hl hn (λn i h Ag=>by simp only[Ls,Ade,Lv,D3 h,aN,aB,aC]) (λn i x k h hx ih Ag=>by simp only[Ls,Ade,Lv,Dx h,Ly h,hx,Bb h hl,ih,aN,aB,aC])
def Hy(Ec:(List Ad)->Option Int)(L:Nat)(a0:List Ad):List Ad->Nat->Int->Option (Nat×Int×Int)
 | [],i,Ag=>(some (1,(Ag,(i:Int))))
 |x::k,i,Ag=>(Option.bind (Alf L x) λr1=>
 (bif (r1 == 0) then(Option.bind (Ec (x.bD)) λr2=>
 (bif (r2 == 0) then(Option.bind (Ec (x.bL)) λr3=>
 (bif (r3 != 0) then(some (0,(r3,(i:Int))))
 else(Hy Ec L a0 k (i+1) Ag)))
 else(bif (r2 != 0) then(some (0,(r2,(i:Int))))
 else(Hy Ec L a0 k (i+1) Ag))))
 else(bif (r1 == 0) then(Option.bind (Ec (x.bL)) λr4=>
 (bif (r4 != 0) then(some (0,(r4,(i:Int))))
 else(Hy Ec L a0 k (i+1) Ag)))
 else(bif (r1 != 0) then(some (0,(r1,(i:Int))))
 else(Hy Ec L a0 k (i+1) Ag)))))
theorem A4b(Ec:(List Ad)->Option Int)(L:Nat)(a0:List Ad)(n:Nat)(hl:a0.length<=maxLen)(hn:a0.length<n):∀(Ag:Int),Ps Ec L a0 n Ag 0=Hy Ec L a0 a0 0 Ag:=lQ (λk i n=>∀(Ag:Int),Ps Ec L a0 n Ag (i:Int)=Hy Ec L a0 k i Ag) hl hn (λn i h Ag=>by simp only[Ps,Adf,Hy,D3 h,aN,aB,aC]) (λn i x k h hx ih Ag=>by simp only[Ps,Adf,Hy,Dx h,Ly h,hx,Bb h hl,ih,aN,aB,aC])
def I8(L:Nat)(a0:Al):List A9->Nat->Int->List Yb->Option (Nat×Int×List Yb×Int)
 | [],i,Ah,Ag=>(some (1,(Ah,Ag,(i:Int))))
 |x::k,i,Ah,Ag=>(Option.bind (Lk L (x.aF) Ag) λr2=>
 (Option.bind (Um L (x.bM)) λr3=>
 (Option.bind (Cj L r3 1) λr4=>
 (Option.bind (Cw L r2 r4) λr5=>
 (bif (r5 != 0) then(some (0,(r5,Ag,(i:Int))))
 else(if((Ag.length+ [x.aF].length)*16<=140737488355328) then(if(Ag.length+ [x.aF].length<=maxLen) then(I8 L a0 k (i+1) Ah (Ag++ [x.aF]))else none)else none))))))
theorem Avx(L:Nat)(a0:Al)(n:Nat)(hl:(a0.aI++a0.bC).length<=maxLen)(hn:(a0.aI++a0.bC).length<n):∀(Ah:Int) (Ag:List Yb),Iz L a0 n Ah Ag 0=I8 L a0 (a0.aI++a0.bC) 0 Ah Ag:=lQ (λk i n=>∀(Ah:Int) (Ag:List Yb),Iz L a0 n Ah Ag (i:Int)=I8 L a0 k i Ah Ag) hl hn (λn i h Ah Ag=>by simp only[Iz,Vi,I8,D3 h,aN,aB,aC]) (λn i x k h hx ih Ah Ag=>by simp only[Iz,Vi,I8,Dx h,Ly h,hx,Bb h hl,ih,aN,aB,aC])
def Jy(L:Nat)(a0:Aa)(r1:Int)(a1:Bv):List A9->Nat->Int->Option (Nat×Int×Int)
 | [],i,Ah=>(some (1,(Ah,(i:Int))))
 |x::k,i,Ah=>(if((i:Int)<(a1.aM.length:Int)) then(Option.bind (Ym L (x.bM) (a1.aM.getD (Int.toNat (i:Int)) default)) λr2=>
 (bif (!r2) then(some (0,(2,(i:Int))))
 else(Jy L a0 r1 a1 k (i+1) Ah)))else none)
theorem A1f(L:Nat)(a0:Aa)(r1:Int)(a1:Bv)(n:Nat)(hl:((a0.aD.getD (Int.toNat r1) default).aI).length<=maxLen)(hn:((a0.aD.getD (Int.toNat r1) default).aI).length<n):∀(Ah:Int),Mu L a0 r1 a1 n Ah 0=Jy L a0 r1 a1 ((a0.aD.getD (Int.toNat r1) default).aI) 0 Ah:=lQ (λk i n=>∀(Ah:Int),Mu L a0 r1 a1 n Ah (i:Int)=Jy L a0 r1 a1 k i Ah) hl hn (λn i h Ah=>by simp only[Mu,d7,Jy,D3 h,aN,aB,aC]) (λn i x k h hx ih Ah=>by simp only[Mu,d7,Jy,Dx h,Ly h,hx,Bb h hl,ih,aN,aB,aC])
def S4(L:Nat)(a1:Yb)(r1:List (List Yb))(a0:Aa):List ((List Yb))->Nat->Yb->Option (Nat×Yb×Int)
 | [],i,Ag=>(some (1,(Ag,(i:Int))))
 |x::k,i,Ag=>(Option.bind (J7 L x a1) λr2=>
 (bif (decide (r2>=0)) then(if((i:Int)<(([(⟨#[118,97,114]⟩:Yb),(⟨#[114,101,115,111,117,114,99,101]⟩:Yb),(⟨#[115,116,111,114,101]⟩:Yb),(⟨#[98,101,108,116]⟩:Yb),(⟨#[113,117,101,117,101]⟩:Yb),(⟨#[115,116,114,101,97,109]⟩:Yb),(⟨#[116,97,108,108,121]⟩:Yb),(⟨#[108,101,118,101,108]⟩:Yb),(⟨#[99,111,117,110,116]⟩:Yb),(⟨#[114,111,117,116,105,110,101]⟩:Yb)].length:Nat):Int)) then(some (0,(([(⟨#[118,97,114]⟩:Yb),(⟨#[114,101,115,111,117,114,99,101]⟩:Yb),(⟨#[115,116,111,114,101]⟩:Yb),(⟨#[98,101,108,116]⟩:Yb),(⟨#[113,117,101,117,101]⟩:Yb),(⟨#[115,116,114,101,97,109]⟩:Yb),(⟨#[116,97,108,108,121]⟩:Yb),(⟨#[108,101,118,101,108]⟩:Yb),(⟨#[99,111,117,110,116]⟩:Yb),(⟨#[114,111,117,116,105,110,101]⟩:Yb)].getD (Int.toNat (i:Int)) default),(i:Int))))else none)
 else(S4 L a1 r1 a0 k (i+1) Ag)))
theorem A4c(L:Nat)(a1:Yb)(r1:List (List Yb))(a0:Aa)(n:Nat)(hl:r1.length<=maxLen)(hn:r1.length<n):∀(Ag:Yb),Pt L a1 r1 a0 n Ag 0=S4 L a1 r1 a0 r1 0 Ag:=lQ (λk i n=>∀(Ag:Yb),Pt L a1 r1 a0 n Ag (i:Int)=S4 L a1 r1 a0 k i Ag) hl hn (λn i h Ag=>by simp only[Pt,Adg,S4,D3 h,aN,aB,aC]) (λn i x k h hx ih Ag=>by simp only[Pt,Adg,S4,Dx h,Ly h,hx,Bb h hl,ih,aN,aB,aC])
def Oj(L:Nat)(a0:Aa)(a1:Bh):List Bd->Nat->Int->Option (Nat×Int×Int)
 | [],i,Ag=>(some (0,(Ag,(i:Int))))
 |x::k,i,Ag=>(Option.bind (Ag9 L a0 x) λr6=>
 (Option.bind (Cw L Ag r6) λr7=>
 (Oj L a0 a1 k (i+1) r7)))
theorem A59(L:Nat)(a0:Aa)(a1:Bh)(n:Nat)(hl:a1.bS.length<=maxLen)(hn:a1.bS.length<n):∀(Ag:Int),R7 L a0 a1 n Ag 0=Oj L a0 a1 a1.bS 0 Ag:=lQ (λk i n=>∀(Ag:Int),R7 L a0 a1 n Ag (i:Int)=Oj L a0 a1 k i Ag) hl hn (λn i h Ag=>by simp only[R7,Agr,Oj,D3 h,aN,aB,aC]) (λn i x k h hx ih Ag=>by simp only[R7,Agr,Oj,Dx h,Ly h,hx,Bb h hl,ih,aN,aB,aC])
def Hz(L:Nat)(r1:List (List Yb))(a0:Aa):List ((List Yb))->Nat->Int->List Yb->Option (Nat×Int×List Yb×Int)
 | [],i,Ah,Ag=>(some (1,(Ah,Ag,(i:Int))))
 |x::k,i,Ah,Ag=>(Option.bind (bif (decide ((x.length:Int)>32)) then(some true)
 else(bif ((i:Int) == 9) then(if(0<=(i:Int)) then(if((i:Int)<(r1.length:Int)) then(some (decide ((x.length:Int)>16)))else none)else none)
 else(some false))) λb2=>
 (bif b2 then(some (0,(6,Ag,(i:Int))))
 else(Option.bind (Lt L r1 (i:Int) a0 L Ah Ag 0) λo6=>
 (Aov o6.1 [(some (0,(o6.2.1,o6.2.2.1,(i:Int)))),(Hz L r1 a0 k (i+1) o6.2.1 o6.2.2.1)]))))
theorem A4e(L:Nat)(r1:List (List Yb))(a0:Aa)(n:Nat)(hl:r1.length<=maxLen)(hn:r1.length<n):∀(Ah:Int) (Ag:List Yb),Pv L r1 a0 n Ah Ag 0=Hz L r1 a0 r1 0 Ah Ag:=lQ (λk i n=>∀(Ah:Int) (Ag:List Yb),Pv L r1 a0 n Ah Ag (i:Int)=Hz L r1 a0 k i Ah Ag) hl hn (λn i h Ah Ag=>by simp only[Pv,Akm,Ad4,Adx,Hz,D3 h,aN,aB,aC]) (λn i x k h hx ih Ah Ag=>by simp only[Pv,Akm,Ad4,Adx,Hz,Dx h,Ly h,hx,Bb h hl,ih,aN,aB,aC])
def S5(L:Nat)(a0:Aa):List Bv->Nat->Int->Option (Nat×Int×Int)
 | [],i,D7=>(some (1,(D7,(i:Int))))
 |x::k,i,D7=>(Option.bind (Y1 L a0 x) λr8=>
 (bif (r8 != 0) then(some (0,(r8,(i:Int))))
 else(S5 L a0 k (i+1) D7)))
theorem A4f(L:Nat)(a0:Aa)(n:Nat)(hl:a0.bV.length<=maxLen)(hn:a0.bV.length<n):∀(D7:Int),Pw L a0 n D7 0=S5 L a0 a0.bV 0 D7:=lQ (λk i n=>∀(D7:Int),Pw L a0 n D7 (i:Int)=S5 L a0 k i D7) hl hn (λn i h D7=>by simp only[Pw,Adj,S5,D3 h,aN,aB,aC]) (λn i x k h hx ih D7=>by simp only[Pw,Adj,S5,Dx h,Ly h,hx,Bb h hl,ih,aN,aB,aC])
def P3(L:Nat)(a0:Aa):List Bh->Nat->Int->List Yb->Option (Nat×Int×List Yb×Int)
 | [],i,Ma,Hw=>(some (1,(Ma,Hw,(i:Int))))
 |x::k,i,Ma,Hw=>(Option.bind (Alg L a0 x Hw) λr10=>
 (bif (r10 != 0) then(some (0,(r10,Hw,(i:Int))))
 else(if((Hw.length+ [x.aF].length)*16<=140737488355328) then(if(Hw.length+ [x.aF].length<=maxLen) then(P3 L a0 k (i+1) Ma (Hw++ [x.aF]))else none)else none)))
theorem A4g(L:Nat)(a0:Aa)(n:Nat)(hl:a0.Laws.length<=maxLen)(hn:a0.Laws.length<n):∀(Ma:Int) (Hw:List Yb),Px L a0 n Ma Hw 0=P3 L a0 a0.Laws 0 Ma Hw:=lQ (λk i n=>∀(Ma:Int) (Hw:List Yb),Px L a0 n Ma Hw (i:Int)=P3 L a0 k i Ma Hw) hl hn (λn i h Ma Hw=>by simp only[Px,Adk,P3,D3 h,aN,aB,aC]) (λn i x k h hx ih Ma Hw=>by simp only[Px,Adk,P3,Dx h,Ly h,hx,Bb h hl,ih,aN,aB,aC])
def P2(L:Nat)(a1:Yb)(a0:Ai):List Aa->Nat->Int->Option (Nat×Int×Int)
 | [],i,Ag=>(some (1,(Ag,(i:Int))))
 |x::k,i,Ag=>(bif (x.aF.toList == a1.toList) then(some (0,((i:Int),(i:Int))))
 else(P2 L a1 a0 k (i+1) Ag))
theorem A4d(L:Nat)(a1:Yb)(a0:Ai)(n:Nat)(hl:a0.aA.length<=maxLen)(hn:a0.aA.length<n):∀(Ag:Int),Pu L a1 a0 n Ag 0=P2 L a1 a0 a0.aA 0 Ag:=lQ (λk i n=>∀(Ag:Int),Pu L a1 a0 n Ag (i:Int)=P2 L a1 a0 k i Ag) hl hn (λn i h Ag=>by simp only[Pu,Adh,P2,D3 h,aN,aB,aC]) (λn i x k h hx ih Ag=>by simp only[Pu,Adh,P2,Dx h,Ly h,hx,Bb h hl,ih,aN,aB,aC])
def Jx(L:Nat)(a0:Ai):List B9->Nat->Int->Option (Nat×Int×Int)
 | [],i,Ah=>(some (1,(Ah,(i:Int))))
 |x::k,i,Ah=>(Option.bind (Yn L a0 (x.aV)) λr1=>
 (Option.bind (bif (decide (r1<0)) then(some true)
 else(Option.bind (Yn L a0 (x.To)) λr3=>
 (some (decide (r3<0))))) λb2=>
 (bif b2 then(some (0,(5,(i:Int))))
 else(bif (x.aV.toList == x.To.toList) then(some (0,(1,(i:Int))))
 else(Option.bind (Dh L (x.bR) 1 1000000000) λr4=>
 (bif (!r4) then(some (0,(2,(i:Int))))
 else(Option.bind (Jn L (i:Int) a0 L Ah 0) λo5=>
 (Aov o5.1 [(some (0,(o5.2.1,(i:Int)))),(Jx L a0 k (i+1) o5.2.1)]))))))))
theorem A1e(L:Nat)(a0:Ai)(n:Nat)(hl:a0.aH.length<=maxLen)(hn:a0.aH.length<n):∀(Ah:Int),Mt L a0 n Ah 0=Jx L a0 a0.aH 0 Ah:=lQ (λk i n=>∀(Ah:Int),Mt L a0 n Ah (i:Int)=Jx L a0 k i Ah) hl hn (λn i h Ah=>by simp only[Mt,Ah1,Aax,y9,Jx,D3 h,aN,aB,aC]) (λn i x k h hx ih Ah=>by simp only[Mt,Ah1,Aax,y9,Jx,Dx h,Ly h,hx,Bb h hl,ih,aN,aB,aC])
def M6(L:Nat)(a0:Ai):List Aw->Nat->Int->Int->List Yb->Option (Nat×Int×Int×List Yb×Int)
 | [],i,Ah,Ag,Ak=>(some (1,(Ah,Ag,Ak,(i:Int))))
 |x::k,i,Ah,Ag,Ak=>(Option.bind (Aeb L x Ak) λr4=>
 (bif (r4 != 0) then(some (0,(r4,r4,Ak,(i:Int))))
 else(if((Ak.length+ [x.aF].length)*16<=140737488355328) then(if(Ak.length+ [x.aF].length<=maxLen) then(M6 L a0 k (i+1) Ah r4 (Ak++ [x.aF]))else none)else none)))
theorem A07(L:Nat)(a0:Ai)(n:Nat)(hl:a0.aI.length<=maxLen)(hn:a0.aI.length<n):∀(Ah:Int) (Ag:Int) (Ak:List Yb),Mm L a0 n Ah Ag Ak 0=M6 L a0 a0.aI 0 Ah Ag Ak:=lQ (λk i n=>∀(Ah:Int) (Ag:Int) (Ak:List Yb),Mm L a0 n Ah Ag Ak (i:Int)=M6 L a0 k i Ah Ag Ak) hl hn (λn i h Ah Ag Ak=>by simp only[Mm,Z6,M6,D3 h,aN,aB,aC]) (λn i x k h hx ih Ah Ag Ak=>by simp only[Mm,Z6,M6,Dx h,Ly h,hx,Bb h hl,ih,aN,aB,aC])
def M7(L:Nat)(a0:Ai):List Aa->Nat->Int->Int->List Yb->Option (Nat×Int×Int×List Yb×Int)
 | [],i,Bz,Gf,Rk=>(some (1,(Bz,Gf,Rk,(i:Int))))
 |x::k,i,Bz,Gf,Rk=>(Option.bind (Lk L (x.aF) Rk) λr9=>
 (Option.bind (Ag8 L x) λr10=>
 (Option.bind (Cw L r9 r10) λr11=>
 (bif (r11 != 0) then(some (0,(r11,r11,Rk,(i:Int))))
 else(if((Rk.length+ [x.aF].length)*16<=140737488355328) then(if(Rk.length+ [x.aF].length<=maxLen) then(M7 L a0 k (i+1) Bz r11 (Rk++ [x.aF]))else none)else none)))))
theorem A08(L:Nat)(a0:Ai)(n:Nat)(hl:a0.aA.length<=maxLen)(hn:a0.aA.length<n):∀(Bz:Int) (Gf:Int) (Rk:List Yb),Mn L a0 n Bz Gf Rk 0=M7 L a0 a0.aA 0 Bz Gf Rk:=lQ (λk i n=>∀(Bz:Int) (Gf:Int) (Rk:List Yb),Mn L a0 n Bz Gf Rk (i:Int)=M7 L a0 k i Bz Gf Rk) hl hn (λn i h Bz Gf Rk=>by simp only[Mn,Z7,M7,D3 h,aN,aB,aC]) (λn i x k h hx ih Bz Gf Rk=>by simp only[Mn,Z7,M7,Dx h,Ly h,hx,Bb h hl,ih,aN,aB,aC])
def P4(L:Nat)(a0:Az):List Ap->Nat->Bool->Option (Nat×Bool×Int)
 | [],i,Ah=>(some (1,(Ah,(i:Int))))
 |x::k,i,Ah=>(if((i:Int)<(a0.aK.aD.length:Int)) then(bif (decide ((((a0.aK.aD.getD (Int.toNat (i:Int)) default).bD).length:Int)>0)) then(some (0,(false,(i:Int))))
 else(bif (!(((a0.aK.aD.getD (Int.toNat (i:Int)) default).aF).toList == x.aF.toList)) then(some (0,(false,(i:Int))))
 else(bif ((((a0.aK.aD.getD (Int.toNat (i:Int)) default).aI).length:Int) != x.aI) then(some (0,(false,(i:Int))))
 else(P4 L a0 k (i+1) Ah))))else none)
theorem A4i(L:Nat)(a0:Az)(n:Nat)(hl:a0.aD.length<=maxLen)(hn:a0.aD.length<n):∀(Ah:Bool),Pz L a0 n Ah 0=P4 L a0 a0.aD 0 Ah:=lQ (λk i n=>∀(Ah:Bool),Pz L a0 n Ah (i:Int)=P4 L a0 k i Ah) hl hn (λn i h Ah=>by simp only[Pz,Adm,P4,D3 h,aN,aB,aC]) (λn i x k h hx ih Ah=>by simp only[Pz,Adm,P4,Dx h,Ly h,hx,Bb h hl,ih,aN,aB,aC])
def Lw(L:Nat)(a0:Ac):List Dr->Nat->Int->Option (Nat×Int×Int)
 | [],i,Ah=>(some (1,(Ah,(i:Int))))
 |x::k,i,Ah=>((λb1=>
 ((λb2=>
 ((λb3=>
 ((λb4=>
 ((λb5=>
 ((λb6=>
 (bif b6 then(some (0,(2,(i:Int))))
 else(Option.bind (Lu L a0 (i:Int) L Ah 0) λo7=>
 (Aov o7.1 [(some (0,(o7.2.1,(i:Int)))),(Lw L a0 k (i+1) o7.2.1)])))) (bif b5 then true
 else(decide (x.bR>1000000000))))) (bif b4 then true
 else(decide (x.bR<1))))) (bif b3 then true
 else(x.aV == x.To)))) (bif b2 then true
 else(decide (x.To>=(a0.aA.length:Int)))))) (bif b1 then true
 else(decide (x.To<0))))) (bif (decide (x.aV<0))then true
 else(decide (x.aV>=(a0.aA.length:Int)))))
theorem A4h(L:Nat)(a0:Ac)(n:Nat)(hl:a0.aH.length<=maxLen)(hn:a0.aH.length<n):∀(Ah:Int),Py L a0 n Ah 0=Lw L a0 a0.aH 0 Ah:=lQ (λk i n=>∀(Ah:Int),Py L a0 n Ah (i:Int)=Lw L a0 k i Ah) hl hn (λn i h Ah=>by simp only[Py,Akn,Ad8,Adz,Lw,D3 h,aN,aB,aC]) (λn i x k h hx ih Ah=>by simp only[Py,Akn,Ad8,Adz,Lw,Dx h,Ly h,hx,Bb h hl,ih,aN,aB,aC])
def Qu(De:Ab->Ab->Option Bool)(Di:(List Ab)->(List Ab)->Option Bool)(L:Nat)(a0:List Ab)(a1:List Ab):List Ab->Nat->Bool->Option (Nat×Bool×Int)
 | [],i,Ak=>(some (1,(Ak,(i:Int))))
 |x::k,i,Ak=>(if((i:Int)<(a1.length:Int)) then(Option.bind (De x (a1.getD (Int.toNat (i:Int)) default)) λr1=>
 (bif (!r1) then(some (0,(false,(i:Int))))
 else(Qu De Di L a0 a1 k (i+1) Ak)))else none)
theorem Avw(De:Ab->Ab->Option Bool)(Di:(List Ab)->(List Ab)->Option Bool)(L:Nat)(a0:List Ab)(a1:List Ab)(n:Nat)(hl:a0.length<=maxLen)(hn:a0.length<n):∀(Ak:Bool),Iy De Di L a0 a1 n Ak 0=Qu De Di L a0 a1 a0 0 Ak:=lQ (λk i n=>∀(Ak:Bool),Iy De Di L a0 a1 n Ak (i:Int)=Qu De Di L a0 a1 k i Ak) hl hn (λn i h Ak=>by simp only[Iy,Vh,Qu,D3 h,aN,aB,aC]) (λn i x k h hx ih Ak=>by simp only[Iy,Vh,Qu,Dx h,Ly h,hx,Bb h hl,ih,aN,aB,aC])
def R9(L:Nat)(a1:Int)(a2:Int)(a0:Ac):List Dr->Nat->Int->Bool->Option (Nat×Int×Bool×Int)
 | [],i,Ak,Af=>(some (1,(Ak,Af,(i:Int))))
 |x::k,i,Ak,Af=>(Option.bind (bif (x.aV == a1) then(if(0<=(i:Int)) then(if((i:Int)<(a0.aH.length:Int)) then(some (x.To == a2))else none)else none)
 else(some false)) λb1=>
 (bif b1 then(some (0,((x.bR),true,(i:Int))))
 else(R9 L a1 a2 a0 k (i+1) Ak Af)))
theorem A6a(L:Nat)(a1:Int)(a2:Int)(a0:Ac)(n:Nat)(hl:a0.aH.length<=maxLen)(hn:a0.aH.length<n):∀(Ak:Int) (Af:Bool),R8 L a1 a2 a0 n Ak Af 0=R9 L a1 a2 a0 a0.aH 0 Ak Af:=lQ (λk i n=>∀(Ak:Int) (Af:Bool),R8 L a1 a2 a0 n Ak Af (i:Int)=R9 L a1 a2 a0 k i Ak Af) hl hn (λn i h Ak Af=>by simp only[R8,Ags,R9,D3 h,aN,aB,aC]) (λn i x k h hx ih Ak Af=>by simp only[R8,Ags,R9,Dx h,Ly h,hx,Bb h hl,ih,aN,aB,aC])
def Lx(Ed:Ac->Int->Ap->Ab->Option Bool)(L:Nat)(a1:Int)(a0:Ac)(a2:Ap)(a3:Ab):List Ab->Nat->Bool->Option (Nat×Bool×Int)
 | [],i,Ag=>(some (1,(Ag,(i:Int))))
 |x::k,i,Ag=>(Option.bind (Ed (⟨a0.aF,a0.aA,a0.aH⟩:Ac) a1 a2 x) λr4=>
 (bif (!r4) then(some (0,(false,(i:Int))))
 else(Lx Ed L a1 a0 a2 a3 k (i+1) Ag)))
theorem A4j(Ed:Ac->Int->Ap->Ab->Option Bool)(L:Nat)(a1:Int)(a0:Ac)(a2:Ap)(a3:Ab)(n:Nat)(hl:a3.aY.length<=maxLen)(hn:a3.aY.length<n):∀(Ag:Bool),Hg Ed L a1 a0 a2 a3 n Ag 0=Lx Ed L a1 a0 a2 a3 a3.aY 0 Ag:=lQ (λk i n=>∀(Ag:Bool),Hg Ed L a1 a0 a2 a3 n Ag (i:Int)=Lx Ed L a1 a0 a2 a3 k i Ag) hl hn (λn i h Ag=>by simp only[Hg,Adn,Lx,D3 h,aN,aB,aC]) (λn i x k h hx ih Ag=>by simp only[Hg,Adn,Lx,Dx h,Ly h,hx,Bb h hl,ih,aN,aB,aC])
def J0(L:Nat)(a1:Int)(r5:List Ab)(a0:Ac)(a2:Ap)(a3:Aq):List Ab->Nat->Int->Int->Option (Nat×Int×Int×Int)
 | [],i,Ag,Ak=>(some (1,(Ag,Ak,(i:Int))))
 |x::k,i,Ag,Ak=>(Option.bind (Sj L x) λr6=>
 (bif (r6 == 0) then(Option.bind (Ir L (⟨a0.aF,a0.aA,a0.aH⟩:Ac) a1 a2 x) λr7=>
 (bif (!r7) then(some (0,(2,2,(i:Int))))
 else(bif (r6 != 0) then(some (0,(r6,r6,(i:Int))))
 else(J0 L a1 r5 a0 a2 a3 k (i+1) Ag r6))))
 else(bif (r6 != 0) then(some (0,(r6,r6,(i:Int))))
 else(J0 L a1 r5 a0 a2 a3 k (i+1) Ag r6))))
theorem A1i(L:Nat)(a1:Int)(r5:List Ab)(a0:Ac)(a2:Ap)(a3:Aq)(n:Nat)(hl:r5.length<=maxLen)(hn:r5.length<n):∀(Ag:Int) (Ak:Int),Mx L a1 r5 a0 a2 a3 n Ag Ak 0=J0 L a1 r5 a0 a2 a3 r5 0 Ag Ak:=lQ (λk i n=>∀(Ag:Int) (Ak:Int),Mx L a1 r5 a0 a2 a3 n Ag Ak (i:Int)=J0 L a1 r5 a0 a2 a3 k i Ag Ak) hl hn (λn i h Ag Ak=>by simp only[Mx,f9,J0,D3 h,aN,aB,aC]) (λn i x k h hx ih Ag Ak=>by simp only[Mx,f9,J0,Dx h,Ly h,hx,Bb h hl,ih,aN,aB,aC])
def I9(L:Nat)(a1:Int)(a0:Ac)(a2:Ap):List Aq->Nat->Int->Int->Option (Nat×Int×Int×Int)
 | [],i,Ag,Ak=>(some (1,(Ag,Ak,(i:Int))))
 |x::k,i,Ag,Ak=>(Option.bind (Y3 L (⟨a0.aF,a0.aA,a0.aH⟩:Ac) a1 a2 (⟨x.Op,x.A,x.B,x.C,(x.E),(x.F),x.aM,(x.bE),x.bU⟩:Aq)) λr6=>
 (bif (r6 != 0) then(some (0,(r6,r6,(i:Int))))
 else(I9 L a1 a0 a2 k (i+1) Ag r6)))
theorem Avy(L:Nat)(a1:Int)(a0:Ac)(a2:Ap)(n:Nat)(hl:a2.aP.length<=maxLen)(hn:a2.aP.length<n):∀(Ag:Int) (Ak:Int),I0 L a1 a0 a2 n Ag Ak 0=I9 L a1 a0 a2 a2.aP 0 Ag Ak:=lQ (λk i n=>∀(Ag:Int) (Ak:Int),I0 L a1 a0 a2 n Ag Ak (i:Int)=I9 L a1 a0 a2 k i Ag Ak) hl hn (λn i h Ag Ak=>by simp only[I0,Vj,I9,D3 h,aN,aB,aC]) (λn i x k h hx ih Ag Ak=>by simp only[I0,Vj,I9,Dx h,Ly h,hx,Bb h hl,ih,aN,aB,aC])
def Jz(L:Nat)(a0:Ac):List Az->Nat->Int->Int->Option (Nat×Int×Int×Int)
 | [],i,Ah,Ag=>(some (1,(Ah,Ag,(i:Int))))
 |x::k,i,Ah,Ag=>(Option.bind (Yz L (⟨a0.aF,[],[(x.aK)],[]⟩:Ai)) λr2=>
 (bif (r2 != 0) then(some (0,(r2,r2,(i:Int))))
 else(Option.bind (Jo L r2 (i:Int) a0 L Ah 0) λo3=>
 (Aov o3.1 [(some (0,(o3.2.1,r2,(i:Int)))),(Option.bind (Abg L (⟨(x.aK),x.aD⟩:Az)) λr4=>
 (bif (!r4) then(some (0,(8,r2,(i:Int))))
 else(Jz L a0 k (i+1) o3.2.1 r2)))]))))
theorem A1g(L:Nat)(a0:Ac)(n:Nat)(hl:a0.aA.length<=maxLen)(hn:a0.aA.length<n):∀(Ah:Int) (Ag:Int),Mv L a0 n Ah Ag 0=Jz L a0 a0.aA 0 Ah Ag:=lQ (λk i n=>∀(Ah:Int) (Ag:Int),Mv L a0 n Ah Ag (i:Int)=Jz L a0 k i Ah Ag) hl hn (λn i h Ah Ag=>by simp only[Mv,Ah2,Aa0,z8,Jz,D3 h,aN,aB,aC]) (λn i x k h hx ih Ah Ag=>by simp only[Mv,Ah2,Aa0,z8,Jz,Dx h,Ly h,hx,Bb h hl,ih,aN,aB,aC])
def M8(L:Nat)(o5:Nat×Int×Int×Int)(a0:Ac):List Az->Nat->Int->Option (Nat×Int×Int)
 | [],i,Ig=>(some (0,(Ig,(i:Int))))
 |x::k,i,Ig=>(Option.bind (Jp L o5 (i:Int) a0 L Ig 0) λo8=>
 (Aov o8.1 [(M8 L o5 a0 k (i+1) o8.2.1)]))
theorem A1h(L:Nat)(o5:Nat×Int×Int×Int)(a0:Ac)(n:Nat)(hl:a0.aA.length<=maxLen)(hn:a0.aA.length<n):∀(Ig:Int),Mw L o5 a0 n Ig 0=M8 L o5 a0 a0.aA 0 Ig:=lQ (λk i n=>∀(Ig:Int),Mw L o5 a0 n Ig (i:Int)=M8 L o5 a0 k i Ig) hl hn (λn i h Ig=>by simp only[Mw,Ah3,Aa1,Aaa,M8,D3 h,aN,aB,aC]) (λn i x k h hx ih Ig=>by simp only[Mw,Ah3,Aa1,Aaa,M8,Dx h,Ly h,hx,Bb h hl,ih,aN,aB,aC])
def Ia(L:Nat)(a0:List Int)(a1:List Int):List Int->Nat->Bool->Option (Nat×Bool×Int)
 | [],i,Ak=>(some (1,(Ak,(i:Int))))
 |x::k,i,Ak=>(if((i:Int)<(a1.length:Int)) then(bif (x != (a1.getD (Int.toNat (i:Int)) default)) then(some (0,(false,(i:Int))))
 else(Ia L a0 a1 k (i+1) Ak))else none)
theorem At3(L:Nat)(a0:List Int)(a1:List Int)(n:Nat)(hl:a0.length<=maxLen)(hn:a0.length<n):∀(Ak:Bool),H7 L a0 a1 n Ak 0=Ia L a0 a1 a0 0 Ak:=lQ (λk i n=>∀(Ak:Bool),H7 L a0 a1 n Ak (i:Int)=Ia L a0 a1 k i Ak) hl hn (λn i h Ak=>by simp only[H7,Tl,Ia,D3 h,aN,aB,aC]) (λn i x k h hx ih Ak=>by simp only[H7,Tl,Ia,Dx h,Ly h,hx,Bb h hl,ih,aN,aB,aC])
end Go.Proofs.YthjhkpgonleelaaGreatDoor.Ev
