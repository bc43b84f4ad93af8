import Derived.Test.YthjhkpgonleelaaGreatDoorBG1
import Derived.Test.YthjhkpgonleelaaGreatDoorBPa
import Derived.Test.YthjhkpgonleelaaGreatDoorBG2
import Derived.Test.YthjhkpgonleelaaGreatDoorBG3
import Derived.Test.YthjhkpgonleelaaGreatDoorBG4
import Derived.Test.YthjhkpgonleelaaGreatDoorBG5
import Derived.Test.YthjhkpgonleelaaGreatDoorBG6
import Derived.Test.YthjhkpgonleelaaGreatDoorBG7
import Derived.Test.YthjhkpgonleelaaGreatDoorBG8
import Derived.Test.YthjhkpgonleelaaGreatDoorBG9
import Derived.Test.YthjhkpgonleelaaGreatDoorBG10
import Derived.Test.YthjhkpgonleelaaGreatDoorBG11
import Derived.Test.YthjhkpgonleelaaGreatDoorBG12
import Derived.Test.YthjhkpgonleelaaGreatDoorBG13
import Derived.Test.YthjhkpgonleelaaGreatDoorBG14
import Derived.Test.YthjhkpgonleelaaGreatDoorBG15
import Derived.Test.YthjhkpgonleelaaGreatDoorBG16
import Derived.Test.YthjhkpgonleelaaGreatDoorBG17
import Derived.Test.YthjhkpgonleelaaGreatDoorBG18
namespace Go.Proofs.YthjhkpgonleelaaGreatDoor.Ev
open Go An
set_option maxRecDepth 100000
set_option maxHeartbeats 4000000
set_option linter.unusedVariables false
set_option linter.unusedSimpArgs false
set_option linter.unnecessarySimpa false
theorem aC:(∀i:Nat,(0≤(i:Int))=True)∧(∀i:Nat,Int.toNat (i:Int)=i)∧(∀ {α :Type} (a b: α),cond true a b=a)∧(∀ {α :Type} (a b: α),cond false a b=b)∧(∀ {α :Type} (a b: α),(if True then a else b)=a)∧(∀h:Decidable True,@decide True h=true)∧(∀x:Ab,Ab.mk x.Op x.Name x.N x.Kids=x)∧(∀x:Ab,Ab.cp x=x)∧(∀x:Ag,Ag.mk x.Op x.Name x.Of x.E x.F x.Args x.Dist x.Flag x.Body x.Else=x)∧(∀x:Ag,Ag.cp x=x):=⟨nn,toN,fun _ _=>rfl,fun _ _=>rfl,fun _ _=>if_true ..,decide_true,Ab.eta,Ab.cp_eq,Ag.eta,Ag.cp_eq⟩
def De(L:Nat)(a0:Ap):List Ew→Nat→Int→Option (Nat×Int×Int)
 | [],i,Au=>(some (1,(Au,(i:Int))))
 |x::k,i,Au=>(Option.bind (Bf L (x.At) 0 (Bi (a0.Cycle - 1))) fun r2=>
 (bif (!r2) then (bif (!r2) then (some (0,(2,(i:Int))))
 else (bif (decide ((i:Int) > 0)) then (if (0≤(Bi ((i:Int) - 1))) then (if ((Bi ((i:Int) - 1)) < (a0.Shift.length:Int)) then (bif (decide (x.At≤(a0.Shift.getD (Int.toNat (Bi ((i:Int) - 1))) default).At)) then (some (0,(12,(i:Int))))
 else (De L a0 k (i+1) Au)) else none) else none)
 else (De L a0 k (i+1) Au)))
 else (Option.bind (Bf L (x.Units) 0 1000) fun r3=>
 (bif (!r3) then (some (0,(2,(i:Int))))
 else (bif (decide ((i:Int) > 0)) then (if (0≤(Bi ((i:Int) - 1))) then (if ((Bi ((i:Int) - 1)) < (a0.Shift.length:Int)) then (bif (decide (x.At≤(a0.Shift.getD (Int.toNat (Bi ((i:Int) - 1))) default).At)) then (some (0,(12,(i:Int))))
 else (De L a0 k (i+1) Au)) else none) else none)
 else (De L a0 k (i+1) Au))))))
theorem Adn(L:Nat)(a0:Ap)(n:Nat)(hl:a0.Shift.length≤maxLen)(hn:a0.Shift.length < n):∀(Au:Int),F1 L a0 n Au 0=De L a0 a0.Shift 0 Au:=lQ (fun k i n=>∀(Au:Int),F1 L a0 n Au (i:Int)=De L a0 k i Au) hl hn (fun n i h Au=>by simp only [F1,Md,De,Kh h,aN,aB,aC]) (fun n i x k h hx ih Au=>by simp only [F1,Md,De,J3 h,m8 h,hx,B6 h hl,ih,aN,aB,aC])
def Ek(L:Nat)(a0:List Int)(a1:List Int):List Int→Nat→Bool→Option (Nat×Bool×Int)
 | [],i,C8=>(some (1,(C8,(i:Int))))
 |x::k,i,C8=>(if ((i:Int) < (a1.length:Int)) then (bif (x != (a1.getD (Int.toNat (i:Int)) default)) then (some (0,(false,(i:Int))))
 else (Ek L a0 a1 k (i+1) C8)) else none)
theorem Ab2(L:Nat)(a0:List Int)(a1:List Int)(n:Nat)(hl:a0.length≤maxLen)(hn:a0.length < n):∀(C8:Bool),Ej L a0 a1 n C8 0=Ek L a0 a1 a0 0 C8:=lQ (fun k i n=>∀(C8:Bool),Ej L a0 a1 n C8 (i:Int)=Ek L a0 a1 k i C8) hl hn (fun n i h C8=>by simp only [Ej,Ku,Ek,Kh h,aN,aB,aC]) (fun n i x k h hx ih C8=>by simp only [Ej,Ku,Ek,J3 h,m8 h,hx,B6 h hl,ih,aN,aB,aC])
def Dt(L:Nat)(a0:List ByteArray)(a1:ByteArray):List ByteArray→Nat→Int→Option (Nat×Int×Int)
 | [],i,C8=>(some (1,(C8,(i:Int))))
 |x::k,i,C8=>(bif (a1.toList == x.toList) then (some (0,((i:Int),(i:Int))))
 else (Dt L a0 a1 k (i+1) C8))
theorem j4(L:Nat)(a0:List ByteArray)(a1:ByteArray)(n:Nat)(hl:a0.length≤maxLen)(hn:a0.length < n):∀(C8:Int),Dr L a0 a1 n C8 0=Dt L a0 a1 a0 0 C8:=lQ (fun k i n=>∀(C8:Int),Dr L a0 a1 n C8 (i:Int)=Dt L a0 a1 k i C8) hl hn (fun n i h C8=>by simp only [Dr,H1,Dt,Kh h,aN,aB,aC]) (fun n i x k h hx ih C8=>by simp only [Dr,H1,Dt,J3 h,m8 h,hx,B6 h hl,ih,aN,aB,aC])
def Hz(L:Nat)(p1_0:List Int)(p1_1:Int)(p1_2:Int):List Int→Nat→Int→Option (Nat×Int×Int)
 | [],i,Bg=>(some (1,(Bg,(i:Int))))
 |x::k,i,Bg=>((fun b1=>
 (bif b1 then (some (0,((i:Int),(i:Int))))
 else (Hz L p1_0 p1_1 p1_2 k (i+1) Bg))) (bif (decide (x < p1_1)) then true
 else (decide (x > p1_2))))
theorem Ahc(L:Nat)(p1_0:List Int)(p1_1:Int)(p1_2:Int)(n:Nat)(hl:p1_0.length≤maxLen)(hn:p1_0.length < n):∀(Bg:Int),Hv L p1_0 p1_1 p1_2 n Bg 0=Hz L p1_0 p1_1 p1_2 p1_0 0 Bg:=lQ (fun k i n=>∀(Bg:Int),Hv L p1_0 p1_1 p1_2 n Bg (i:Int)=Hz L p1_0 p1_1 p1_2 k i Bg) hl hn (fun n i h Bg=>by simp only [Hv,Qv,Hz,Kh h,aN,aB,aC]) (fun n i x k h hx ih Bg=>by simp only [Hv,Qv,Hz,J3 h,m8 h,hx,B6 h hl,ih,aN,aB,aC])
def Dh(L:Nat)(a0:List (List Ba)):List ((List Ba))→Nat→Int→Option (Nat×Int×Int)
 | [],i,C8=>(some (0,(C8,(i:Int))))
 |x::k,i,C8=>(bif (decide ((Bi (C8+(x.length:Int))) < 0)) then none
 else (Dh L a0 k (i+1) (Bi (C8+(x.length:Int)))))
theorem Xr(L:Nat)(a0:List (List Ba))(n:Nat)(hl:a0.length≤maxLen)(hn:a0.length < n):∀(C8:Int),Cz L a0 n C8 0=Dh L a0 a0 0 C8:=lQ (fun k i n=>∀(C8:Int),Cz L a0 n C8 (i:Int)=Dh L a0 k i C8) hl hn (fun n i h C8=>by simp only [Cz,F8,Dh,Kh h,aN,aB,aC]) (fun n i x k h hx ih C8=>by simp only [Cz,F8,Dh,J3 h,m8 h,hx,B6 h hl,ih,aN,aB,aC])
def Di(L:Nat)(a0:List (List Ba)):List ((List Ba))→Nat→List Ba→Option (Nat×List Ba×Int)
 | [],i,Se=>(some (0,(Se,(i:Int))))
 |x::k,i,Se=>(if ((Se.length+x.length)*24≤140737488355328) then (if (Se.length+x.length≤maxLen) then (Di L a0 k (i+1) (Se++x)) else none) else none)
theorem Xs(L:Nat)(a0:List (List Ba))(n:Nat)(hl:a0.length≤maxLen)(hn:a0.length < n):∀(Se:List Ba),C0 L a0 n Se 0=Di L a0 a0 0 Se:=lQ (fun k i n=>∀(Se:List Ba),C0 L a0 n Se (i:Int)=Di L a0 k i Se) hl hn (fun n i h Se=>by simp only [C0,F9,Di,Kh h,aN,aB,aC]) (fun n i x k h hx ih Se=>by simp only [C0,F9,Di,J3 h,m8 h,hx,B6 h hl,ih,aN,aB,aC])
def Hh(Dy:(List Ag)→Option Int)(L:Nat)(a0:List Ag):List Ag→Nat→Int→Option (Nat×Int×Int)
 | [],i,Bg=>(some (0,(Bg,(i:Int))))
 |x::k,i,Bg=>(Option.bind (Dy (x.Body)) fun r1=>
 (Option.bind (Dy (x.Else)) fun r2=>
 (Hh Dy L a0 k (i+1) (Bi (Bg+(Bi (r1+r2)))))))
theorem Ai8(Dy:(List Ag)→Option Int)(L:Nat)(a0:List Ag)(n:Nat)(hl:a0.length≤maxLen)(hn:a0.length < n):∀(Bg:Int),Iw Dy L a0 n Bg 0=Hh Dy L a0 a0 0 Bg:=lQ (fun k i n=>∀(Bg:Int),Iw Dy L a0 n Bg (i:Int)=Hh Dy L a0 k i Bg) hl hn (fun n i h Bg=>by simp only [Iw,Su,Hh,Kh h,aN,aB,aC]) (fun n i x k h hx ih Bg=>by simp only [Iw,Su,Hh,J3 h,m8 h,hx,B6 h hl,ih,aN,aB,aC])
def Hi(Dz:(List Ag)→Option Int)(L:Nat)(a0:List Ag):List Ag→Nat→Int→Option (Nat×Int×Int)
 | [],i,Bg=>(some (0,(Bg,(i:Int))))
 |x::k,i,Bg=>(Option.bind (Dz (x.Body)) fun r1=>
 (Option.bind (Dz (x.Else)) fun r2=>
 (Hi Dz L a0 k (i+1) (if (Bi (1+r2)) > (if (Bi (1+r1)) > Bg then (Bi (1+r1)) else Bg) then (Bi (1+r2)) else (if (Bi (1+r1)) > Bg then (Bi (1+r1)) else Bg)))))
theorem Ai9(Dz:(List Ag)→Option Int)(L:Nat)(a0:List Ag)(n:Nat)(hl:a0.length≤maxLen)(hn:a0.length < n):∀(Bg:Int),Ix Dz L a0 n Bg 0=Hi Dz L a0 a0 0 Bg:=lQ (fun k i n=>∀(Bg:Int),Ix Dz L a0 n Bg (i:Int)=Hi Dz L a0 k i Bg) hl hn (fun n i h Bg=>by simp only [Ix,Sv,Hi,Kh h,aN,aB,aC]) (fun n i x k h hx ih Bg=>by simp only [Ix,Sv,Hi,J3 h,m8 h,hx,B6 h hl,ih,aN,aB,aC])
def Ms(Du:Ab→Ab→Option Bool)(L:Nat)(a0:Ab)(a1:Ab):List Ab→Nat→Bool→Option (Nat×Bool×Int)
 | [],i,Au=>(some (1,(Au,(i:Int))))
 |x::k,i,Au=>(if ((i:Int) < (a1.Kids.length:Int)) then (Option.bind (Du x (a1.Kids.getD (Int.toNat (i:Int)) default)) fun r4=>
 (bif (!r4) then (some (0,(false,(i:Int))))
 else (Ms Du L a0 a1 k (i+1) Au))) else none)
theorem Akx(Du:Ab→Ab→Option Bool)(L:Nat)(a0:Ab)(a1:Ab)(n:Nat)(hl:a0.Kids.length≤maxLen)(hn:a0.Kids.length < n):∀(Au:Bool),Kl Du L a0 a1 n Au 0=Ms Du L a0 a1 a0.Kids 0 Au:=lQ (fun k i n=>∀(Au:Bool),Kl Du L a0 a1 n Au (i:Int)=Ms Du L a0 a1 k i Au) hl hn (fun n i h Au=>by simp only [Kl,Uk,Ms,Kh h,aN,aB,aC]) (fun n i x k h hx ih Au=>by simp only [Kl,Uk,Ms,J3 h,m8 h,hx,B6 h hl,ih,aN,aB,aC])
def I5(D5:Ab→Option Int)(L:Nat)(a0:Ab):List Ab→Nat→Int→Option (Nat×Int×Int)
 | [],i,Bg=>(some (0,(Bg,(i:Int))))
 |x::k,i,Bg=>(Option.bind (D5 x) fun r1=>
 (I5 D5 L a0 k (i+1) (Bi (Bg+r1))))
theorem Aiw(D5:Ab→Option Int)(L:Nat)(a0:Ab)(n:Nat)(hl:a0.Kids.length≤maxLen)(hn:a0.Kids.length < n):∀(Bg:Int),Ip D5 L a0 n Bg 0=I5 D5 L a0 a0.Kids 0 Bg:=lQ (fun k i n=>∀(Bg:Int),Ip D5 L a0 n Bg (i:Int)=I5 D5 L a0 k i Bg) hl hn (fun n i h Bg=>by simp only [Ip,So,I5,Kh h,aN,aB,aC]) (fun n i x k h hx ih Bg=>by simp only [Ip,So,I5,J3 h,m8 h,hx,B6 h hl,ih,aN,aB,aC])
def I4(D6:Ab→Option Int)(L:Nat)(a0:Ab):List Ab→Nat→Int→Option (Nat×Int×Int)
 | [],i,Bg=>(some (0,(Bg,(i:Int))))
 |x::k,i,Bg=>(Option.bind (D6 x) fun r1=>
 (I4 D6 L a0 k (i+1) (if r1 > Bg then r1 else Bg)))
theorem Aiv(D6:Ab→Option Int)(L:Nat)(a0:Ab)(n:Nat)(hl:a0.Kids.length≤maxLen)(hn:a0.Kids.length < n):∀(Bg:Int),Io D6 L a0 n Bg 0=I4 D6 L a0 a0.Kids 0 Bg:=lQ (fun k i n=>∀(Bg:Int),Io D6 L a0 n Bg (i:Int)=I4 D6 L a0 k i Bg) hl hn (fun n i h Bg=>by simp only [Io,Sm,I4,Kh h,aN,aB,aC]) (fun n i x k h hx ih Bg=>by simp only [Io,Sm,I4,J3 h,m8 h,hx,B6 h hl,ih,aN,aB,aC])
def Ea(Dv:Bj→Ab→Option Int)(L:Nat)(a1:Ab)(a0:Bj):List Ab→Nat→Int→Option (Nat×Int×Int)
 | [],i,Au=>(some (1,(Au,(i:Int))))
 |x::k,i,Au=>(Option.bind (Dv (⟨a0.u_code⟩:Bj) x) fun r2=>
 (bif (r2 != 0) then (some (0,(r2,(i:Int))))
 else (Ea Dv L a1 a0 k (i+1) Au)))
theorem Acu(Dv:Bj→Ab→Option Int)(L:Nat)(a1:Ab)(a0:Bj)(n:Nat)(hl:a1.Kids.length≤maxLen)(hn:a1.Kids.length < n):∀(Au:Int),Ez Dv L a1 a0 n Au 0=Ea Dv L a1 a0 a1.Kids 0 Au:=lQ (fun k i n=>∀(Au:Int),Ez Dv L a1 a0 n Au (i:Int)=Ea Dv L a1 a0 k i Au) hl hn (fun n i h Au=>by simp only [Ez,Lm,Ea,Kh h,aN,aB,aC]) (fun n i x k h hx ih Au=>by simp only [Ez,Lm,Ea,J3 h,m8 h,hx,B6 h hl,ih,aN,aB,aC])
def Hj(L:Nat)(a0:Ag)(a1:Bp):List Ab→Nat→Int→Option (Nat×Int×Int)
 | [],i,Et=>(some (1,(Et,(i:Int))))
 |x::k,i,Et=>(Option.bind (Nl L x) fun r6=>
 (bif (r6 != 0) then (some (0,(r6,(i:Int))))
 else (Hj L a0 a1 k (i+1) Et)))
theorem Ajb(L:Nat)(a0:Ag)(a1:Bp)(n:Nat)(hl:a0.Args.length≤maxLen)(hn:a0.Args.length < n):∀(Et:Int),I1 L a0 a1 n Et 0=Hj L a0 a1 a0.Args 0 Et:=lQ (fun k i n=>∀(Et:Int),I1 L a0 a1 n Et (i:Int)=Hj L a0 a1 k i Et) hl hn (fun n i h Et=>by simp only [I1,Sx,Hj,Kh h,aN,aB,aC]) (fun n i x k h hx ih Et=>by simp only [I1,Sx,Hj,J3 h,m8 h,hx,B6 h hl,ih,aN,aB,aC])
def I8(D0:(List Ag)→Option Int)(L:Nat)(a0:List Ag):List Ag→Nat→Int→Option (Nat×Int×Int)
 | [],i,Au=>(some (1,(Au,(i:Int))))
 |x::k,i,Au=>(Option.bind (Xi L (x.Op)) fun r1=>
 (Option.bind (bif (!r1.2) then (some true)
 else (Option.bind (Xh L x r1.1) fun r3=>
 (some (!r3)))) fun b2=>
 (bif b2 then (some (0,(1,(i:Int))))
 else (Option.bind (Tz L x r1.1) fun r4=>
 (bif (r4 != 0) then (some (0,(r4,(i:Int))))
 else (Option.bind (D0 (x.Body)) fun r5=>
 (bif (r5 != 0) then (some (0,(r5,(i:Int))))
 else (Option.bind (D0 (x.Else)) fun r6=>
 (bif (r6 != 0) then (some (0,(r6,(i:Int))))
 else (I8 D0 L a0 k (i+1) Au))))))))))
theorem Aja(D0:(List Ag)→Option Int)(L:Nat)(a0:List Ag)(n:Nat)(hl:a0.length≤maxLen)(hn:a0.length < n):∀(Au:Int),Iy D0 L a0 n Au 0=I8 D0 L a0 a0 0 Au:=lQ (fun k i n=>∀(Au:Int),Iy D0 L a0 n Au (i:Int)=I8 D0 L a0 k i Au) hl hn (fun n i h Au=>by simp only [Iy,Sw,I8,Kh h,aN,aB,aC]) (fun n i x k h hx ih Au=>by simp only [Iy,Sw,I8,J3 h,m8 h,hx,B6 h hl,ih,aN,aB,aC])
def Ds(L:Nat)(r2:List Ba)(a0:Ao):List Ba→Nat→Int→List ByteArray→List Bool→Option (Nat×Int×Int×List ByteArray×List Bool)
 | [],i,Au,Bl,C5=>(some (1,(Au,(i:Int),Bl,C5)))
 |x::k,i,Au,Bl,C5=>(Option.bind (Hs L (x.Name) a0 x Bl C5) fun o7=>
 (bif (o7.1 != 0) then (some (0,(o7.1,(i:Int),o7.2.1,o7.2.2)))
 else (Option.bind (H0 L (x.Type_)) fun r8=>
 (bif (!r8) then (some (0,(1,(i:Int),o7.2.1,o7.2.2)))
 else (Ds L r2 a0 k (i+1) Au o7.2.1 o7.2.2)))))
theorem Aeg(L:Nat)(r2:List Ba)(a0:Ao)(n:Nat)(hl:r2.length≤maxLen)(hn:r2.length < n):∀(Au:Int) (Bl:List ByteArray) (C5:List Bool),E5 L r2 a0 n Au 0 Bl C5=Ds L r2 a0 r2 0 Au Bl C5:=lQ (fun k i n=>∀(Au:Int) (Bl:List ByteArray) (C5:List Bool),E5 L r2 a0 n Au (i:Int) Bl C5=Ds L r2 a0 k i Au Bl C5) hl hn (fun n i h Au Bl C5=>by simp only [E5,Tk,Nx,Ko,Ds,Kh h,aN,aB,aC]) (fun n i x k h hx ih Au Bl C5=>by simp only [E5,Tk,Nx,Ko,Ds,J3 h,m8 h,hx,B6 h hl,ih,aN,aB,aC])
def Ge(L:Nat)(p1_0:List Ao)(p1_1:Aa)(p1_2:ByteArray):List Ao→Nat→Int→Option (Nat×Int×Int)
 | [],i,Bg=>(some (1,(Bg,(i:Int))))
 |x::k,i,Bg=>(bif ((x.Name).toList == p1_2.toList) then (some (0,((i:Int),(i:Int))))
 else (Ge L p1_0 p1_1 p1_2 k (i+1) Bg))
theorem Aef(L:Nat)(p1_0:List Ao)(p1_1:Aa)(p1_2:ByteArray)(n:Nat)(hl:p1_0.length≤maxLen)(hn:p1_0.length < n):∀(Bg:Int),Gd L p1_0 p1_1 p1_2 n Bg 0=Ge L p1_0 p1_1 p1_2 p1_0 0 Bg:=lQ (fun k i n=>∀(Bg:Int),Gd L p1_0 p1_1 p1_2 n Bg (i:Int)=Ge L p1_0 p1_1 p1_2 k i Bg) hl hn (fun n i h Bg=>by simp only [Gd,Ns,Ge,Kh h,aN,aB,aC]) (fun n i x k h hx ih Bg=>by simp only [Gd,Ns,Ge,J3 h,m8 h,hx,B6 h hl,ih,aN,aB,aC])
def Gk(L:Nat)(a0:Aa)(r1:Int)(a1:Cl):List Int→Nat→Int→Option (Nat×Int×Int)
 | [],i,Au=>(some (1,(Au,(i:Int))))
 |x::k,i,Au=>(if ((i:Int) < ((((a0.Routines.getD (Int.toNat r1) default).Params).length:Nat):Int)) then (Option.bind (Nm L ((((a0.Routines.getD (Int.toNat r1) default).Params).getD (Int.toNat (i:Int)) default).Type_) x) fun r2=>
 (bif (!r2) then (some (0,(2,(i:Int))))
 else (Gk L a0 r1 a1 k (i+1) Au))) else none)
theorem Ahg(L:Nat)(a0:Aa)(r1:Int)(a1:Cl)(n:Nat)(hl:a1.Args.length≤maxLen)(hn:a1.Args.length < n):∀(Au:Int),Hw L a0 r1 a1 n Au 0=Gk L a0 r1 a1 a1.Args 0 Au:=lQ (fun k i n=>∀(Au:Int),Hw L a0 r1 a1 n Au (i:Int)=Gk L a0 r1 a1 k i Au) hl hn (fun n i h Au=>by simp only [Hw,Qw,Gk,Kh h,aN,aB,aC]) (fun n i x k h hx ih Au=>by simp only [Hw,Qw,Gk,J3 h,m8 h,hx,B6 h hl,ih,aN,aB,aC])
def I7(L:Nat)(p1_0:List Av)(p1_1:Aa)(p1_2:Be):List Av→Nat→Int→Option (Nat×Int×Int)
 | [],i,Bg=>(some (1,(Bg,(i:Int))))
 |x::k,i,Bg=>(bif ((x.Name).toList == p1_2.Name.toList) then (some (0,((i:Int),(i:Int))))
 else (I7 L p1_0 p1_1 p1_2 k (i+1) Bg))
theorem Ai7(L:Nat)(p1_0:List Av)(p1_1:Aa)(p1_2:Be)(n:Nat)(hl:p1_0.length≤maxLen)(hn:p1_0.length < n):∀(Bg:Int),Iv L p1_0 p1_1 p1_2 n Bg 0=I7 L p1_0 p1_1 p1_2 p1_0 0 Bg:=lQ (fun k i n=>∀(Bg:Int),Iv L p1_0 p1_1 p1_2 n Bg (i:Int)=I7 L p1_0 p1_1 p1_2 k i Bg) hl hn (fun n i h Bg=>by simp only [Iv,Ss,I7,Kh h,aN,aB,aC]) (fun n i x k h hx ih Bg=>by simp only [Iv,Ss,I7,J3 h,m8 h,hx,B6 h hl,ih,aN,aB,aC])
def K5(L:Nat)(p11_0:List Be)(p11_1:Aa)(p11_2:List ByteArray)(p11_3:List Bool)(p11_4:Bh)(p11_5:Bh):List Be→Nat→Int→Option (Nat×Int×Int)
 | [],i,Cn=>(some (1,(Cn,(i:Int))))
 |x::k,i,Cn=>(Option.bind (Qn L p11_1 x) fun r6=>
 (bif (r6 != 0) then (some (0,(r6,(i:Int))))
 else (K5 L p11_0 p11_1 p11_2 p11_3 p11_4 p11_5 k (i+1) Cn)))
theorem Aiz(L:Nat)(p11_0:List Be)(p11_1:Aa)(p11_2:List ByteArray)(p11_3:List Bool)(p11_4:Bh)(p11_5:Bh)(n:Nat)(hl:p11_0.length≤maxLen)(hn:p11_0.length < n):∀(Cn:Int),Ir L p11_0 p11_1 p11_2 p11_3 p11_4 p11_5 n Cn 0=K5 L p11_0 p11_1 p11_2 p11_3 p11_4 p11_5 p11_0 0 Cn:=lQ (fun k i n=>∀(Cn:Int),Ir L p11_0 p11_1 p11_2 p11_3 p11_4 p11_5 n Cn (i:Int)=K5 L p11_0 p11_1 p11_2 p11_3 p11_4 p11_5 k i Cn) hl hn (fun n i h Cn=>by simp only [Ir,Sq,K5,Kh h,aN,aB,aC]) (fun n i x k h hx ih Cn=>by simp only [Ir,Sq,K5,J3 h,m8 h,hx,B6 h hl,ih,aN,aB,aC])
def K4(L:Nat)(p1_0:List Bh)(p1_1:Aa):List Bh→Nat→Int→List ByteArray→List Bool→Option (Nat×Int×Int×List ByteArray×List Bool)
 | [],i,Au,C3,C4=>(some (1,(Au,(i:Int),C3,C4)))
 |x::k,i,Au,C3,C4=>(Option.bind (K3 L x p1_1 C3 C4 x) fun o10=>
 (bif (o10.1 != 0) then (some (0,(o10.1,(i:Int),o10.2.1,o10.2.2)))
 else (K4 L p1_0 p1_1 k (i+1) Au o10.2.1 o10.2.2)))
theorem Aiy(L:Nat)(p1_0:List Bh)(p1_1:Aa)(n:Nat)(hl:p1_0.length≤maxLen)(hn:p1_0.length < n):∀(Au:Int) (C3:List ByteArray) (C4:List Bool),Gz L p1_0 p1_1 n Au 0 C3 C4=K4 L p1_0 p1_1 p1_0 0 Au C3 C4:=lQ (fun k i n=>∀(Au:Int) (C3:List ByteArray) (C4:List Bool),Gz L p1_0 p1_1 n Au (i:Int) C3 C4=K4 L p1_0 p1_1 k i Au C3 C4) hl hn (fun n i h Au C3 C4=>by simp only [Gz,Yf,Rm,Mz,K4,Kh h,aN,aB,aC]) (fun n i x k h hx ih Au C3 C4=>by simp only [Gz,Yf,Rm,Mz,K4,J3 h,m8 h,hx,B6 h hl,ih,aN,aB,aC])
def K6(L:Nat)(p41_0:List Ax)(p41_1:Aa):List Ax→Nat→Int→List ByteArray→List Bool→Option (Nat×Int×Int×List ByteArray×List Bool)
 | [],i,Au,C3,C4=>(some (1,(Au,(i:Int),C3,C4)))
 |x::k,i,Au,C3,C4=>(Option.bind (J5 L x p41_1 C3 C4 x) fun o8=>
 (bif (o8.1 != 0) then (some (0,(o8.1,(i:Int),o8.2.1,o8.2.2)))
 else (K6 L p41_0 p41_1 k (i+1) Au o8.2.1 o8.2.2)))
theorem Ai0(L:Nat)(p41_0:List Ax)(p41_1:Aa)(n:Nat)(hl:p41_0.length≤maxLen)(hn:p41_0.length < n):∀(Au:Int) (C3:List ByteArray) (C4:List Bool),Ha L p41_0 p41_1 n Au 0 C3 C4=K6 L p41_0 p41_1 p41_0 0 Au C3 C4:=lQ (fun k i n=>∀(Au:Int) (C3:List ByteArray) (C4:List Bool),Ha L p41_0 p41_1 n Au (i:Int) C3 C4=K6 L p41_0 p41_1 k i Au C3 C4) hl hn (fun n i h Au C3 C4=>by simp only [Ha,Yg,Ro,M6,K6,Kh h,aN,aB,aC]) (fun n i x k h hx ih Au C3 C4=>by simp only [Ha,Yg,Ro,M6,K6,J3 h,m8 h,hx,B6 h hl,ih,aN,aB,aC])
def K7(L:Nat)(p48_0:List Ap)(p48_1:Aa):List Ap→Nat→Int→List ByteArray→List Bool→Option (Nat×Int×Int×List ByteArray×List Bool)
 | [],i,Cn,F3,F6=>(some (1,(Cn,(i:Int),F3,F6)))
 |x::k,i,Cn,F3,F6=>(Option.bind (J6 L x p48_1 F3 F6 x) fun o19=>
 (bif (o19.1 != 0) then (some (0,(o19.1,(i:Int),o19.2.1,o19.2.2)))
 else (K7 L p48_0 p48_1 k (i+1) Cn o19.2.1 o19.2.2)))
theorem Ai1(L:Nat)(p48_0:List Ap)(p48_1:Aa)(n:Nat)(hl:p48_0.length≤maxLen)(hn:p48_0.length < n):∀(Cn:Int) (F3:List ByteArray) (F6:List Bool),Hb L p48_0 p48_1 n Cn 0 F3 F6=K7 L p48_0 p48_1 p48_0 0 Cn F3 F6:=lQ (fun k i n=>∀(Cn:Int) (F3:List ByteArray) (F6:List Bool),Hb L p48_0 p48_1 n Cn (i:Int) F3 F6=K7 L p48_0 p48_1 k i Cn F3 F6) hl hn (fun n i h Cn F3 F6=>by simp only [Hb,Yh,Rp,M7,K7,Kh h,aN,aB,aC]) (fun n i x k h hx ih Cn F3 F6=>by simp only [Hb,Yh,Rp,M7,K7,J3 h,m8 h,hx,B6 h hl,ih,aN,aB,aC])
def K8(L:Nat)(p55_0:List Av)(p55_1:Aa):List Av→Nat→Int→List ByteArray→List Bool→Option (Nat×Int×Int×List ByteArray×List Bool)
 | [],i,Et,F4,F7=>(some (1,(Et,(i:Int),F4,F7)))
 |x::k,i,Et,F4,F7=>(Option.bind (J7 L x p55_1 F4 F7 x) fun o29=>
 (bif (o29.1 != 0) then (some (0,(o29.1,(i:Int),o29.2.1,o29.2.2)))
 else (K8 L p55_0 p55_1 k (i+1) Et o29.2.1 o29.2.2)))
theorem Ai2(L:Nat)(p55_0:List Av)(p55_1:Aa)(n:Nat)(hl:p55_0.length≤maxLen)(hn:p55_0.length < n):∀(Et:Int) (F4:List ByteArray) (F7:List Bool),Hc L p55_0 p55_1 n Et 0 F4 F7=K8 L p55_0 p55_1 p55_0 0 Et F4 F7:=lQ (fun k i n=>∀(Et:Int) (F4:List ByteArray) (F7:List Bool),Hc L p55_0 p55_1 n Et (i:Int) F4 F7=K8 L p55_0 p55_1 k i Et F4 F7) hl hn (fun n i h Et F4 F7=>by simp only [Hc,Yi,Rq,M8,K8,Kh h,aN,aB,aC]) (fun n i x k h hx ih Et F4 F7=>by simp only [Hc,Yi,Rq,M8,K8,J3 h,m8 h,hx,B6 h hl,ih,aN,aB,aC])
def K9(L:Nat)(p62_0:List Bd)(p62_1:Aa):List Bd→Nat→Int→List ByteArray→List Bool→Option (Nat×Int×Int×List ByteArray×List Bool)
 | [],i,Qd,Ji,Jj=>(some (1,(Qd,(i:Int),Ji,Jj)))
 |x::k,i,Qd,Ji,Jj=>(Option.bind (J8 L x p62_1 Ji Jj x) fun o40=>
 (bif (o40.1 != 0) then (some (0,(o40.1,(i:Int),o40.2.1,o40.2.2)))
 else (K9 L p62_0 p62_1 k (i+1) Qd o40.2.1 o40.2.2)))
theorem Ai3(L:Nat)(p62_0:List Bd)(p62_1:Aa)(n:Nat)(hl:p62_0.length≤maxLen)(hn:p62_0.length < n):∀(Qd:Int) (Ji:List ByteArray) (Jj:List Bool),He L p62_0 p62_1 n Qd 0 Ji Jj=K9 L p62_0 p62_1 p62_0 0 Qd Ji Jj:=lQ (fun k i n=>∀(Qd:Int) (Ji:List ByteArray) (Jj:List Bool),He L p62_0 p62_1 n Qd (i:Int) Ji Jj=K9 L p62_0 p62_1 k i Qd Ji Jj) hl hn (fun n i h Qd Ji Jj=>by simp only [He,Yj,Rr,M9,K9,Kh h,aN,aB,aC]) (fun n i x k h hx ih Qd Ji Jj=>by simp only [He,Yj,Rr,M9,K9,J3 h,m8 h,hx,B6 h hl,ih,aN,aB,aC])
def La(L:Nat)(p69_0:List ByteArray)(p69_1:Aa):List ByteArray→Nat→Int→List ByteArray→List Bool→Option (Nat×Int×Int×List ByteArray×List Bool)
 | [],i,Qe,Jk,Jl=>(some (1,(Qe,(i:Int),Jk,Jl)))
 |x::k,i,Qe,Jk,Jl=>(Option.bind (J9 L x p69_1 Jk Jl) fun o47=>
 (bif (o47.1 != 0) then (some (0,(o47.1,(i:Int),o47.2.1,o47.2.2)))
 else (La L p69_0 p69_1 k (i+1) Qe o47.2.1 o47.2.2)))
theorem Ai4(L:Nat)(p69_0:List ByteArray)(p69_1:Aa)(n:Nat)(hl:p69_0.length≤maxLen)(hn:p69_0.length < n):∀(Qe:Int) (Jk:List ByteArray) (Jl:List Bool),Hf L p69_0 p69_1 n Qe 0 Jk Jl=La L p69_0 p69_1 p69_0 0 Qe Jk Jl:=lQ (fun k i n=>∀(Qe:Int) (Jk:List ByteArray) (Jl:List Bool),Hf L p69_0 p69_1 n Qe (i:Int) Jk Jl=La L p69_0 p69_1 k i Qe Jk Jl) hl hn (fun n i h Qe Jk Jl=>by simp only [Hf,Yk,Rs,Na,La,Kh h,aN,aB,aC]) (fun n i x k h hx ih Qe Jk Jl=>by simp only [Hf,Yk,Rs,Na,La,J3 h,m8 h,hx,B6 h hl,ih,aN,aB,aC])
def Lb(L:Nat)(p72_0:List Ao)(p72_1:Aa):List Ao→Nat→Int→List ByteArray→List Bool→Option (Nat×Int×Int×List ByteArray×List Bool)
 | [],i,Qf,Jm,Jn=>(some (1,(Qf,(i:Int),Jm,Jn)))
 |x::k,i,Qf,Jm,Jn=>(Option.bind (Ka L x p72_1 Jm Jn x) fun o60=>
 (bif (o60.1 != 0) then (some (0,(o60.1,(i:Int),o60.2.1,o60.2.2)))
 else (Lb L p72_0 p72_1 k (i+1) Qf o60.2.1 o60.2.2)))
theorem Ai5(L:Nat)(p72_0:List Ao)(p72_1:Aa)(n:Nat)(hl:p72_0.length≤maxLen)(hn:p72_0.length < n):∀(Qf:Int) (Jm:List ByteArray) (Jn:List Bool),Hg L p72_0 p72_1 n Qf 0 Jm Jn=Lb L p72_0 p72_1 p72_0 0 Qf Jm Jn:=lQ (fun k i n=>∀(Qf:Int) (Jm:List ByteArray) (Jn:List Bool),Hg L p72_0 p72_1 n Qf (i:Int) Jm Jn=Lb L p72_0 p72_1 k i Qf Jm Jn) hl hn (fun n i h Qf Jm Jn=>by simp only [Hg,Yl,Ps,Lv,Lb,Kh h,aN,aB,aC]) (fun n i x k h hx ih Qf Jm Jn=>by simp only [Hg,Yl,Ps,Lv,Lb,J3 h,m8 h,hx,B6 h hl,ih,aN,aB,aC])
def Lc(L:Nat)(p79_0:List Cl)(p79_1:Aa)(p79_2:List ByteArray)(p79_3:List Bool):List Cl→Nat→Int→Option (Nat×Int×Int)
 | [],i,Acx=>(some (1,(Acx,(i:Int))))
 |x::k,i,Acx=>(Option.bind (Oq L p79_1 x) fun r63=>
 (bif (r63 != 0) then (some (0,(r63,(i:Int))))
 else (Lc L p79_0 p79_1 p79_2 p79_3 k (i+1) Acx)))
theorem Ai6(L:Nat)(p79_0:List Cl)(p79_1:Aa)(p79_2:List ByteArray)(p79_3:List Bool)(n:Nat)(hl:p79_0.length≤maxLen)(hn:p79_0.length < n):∀(Acx:Int),Iu L p79_0 p79_1 p79_2 p79_3 n Acx 0=Lc L p79_0 p79_1 p79_2 p79_3 p79_0 0 Acx:=lQ (fun k i n=>∀(Acx:Int),Iu L p79_0 p79_1 p79_2 p79_3 n Acx (i:Int)=Lc L p79_0 p79_1 p79_2 p79_3 k i Acx) hl hn (fun n i h Acx=>by simp only [Iu,Sr,Lc,Kh h,aN,aB,aC]) (fun n i x k h hx ih Acx=>by simp only [Iu,Sr,Lc,J3 h,m8 h,hx,B6 h hl,ih,aN,aB,aC])
def I6(L:Nat)(p1_0:List Aa)(p1_1:Aq)(p1_2:ByteArray):List Aa→Nat→Int→Option (Nat×Int×Int)
 | [],i,Bg=>(some (1,(Bg,(i:Int))))
 |x::k,i,Bg=>(bif ((x.Name).toList == p1_2.toList) then (some (0,((i:Int),(i:Int))))
 else (I6 L p1_0 p1_1 p1_2 k (i+1) Bg))
theorem Aix(L:Nat)(p1_0:List Aa)(p1_1:Aq)(p1_2:ByteArray)(n:Nat)(hl:p1_0.length≤maxLen)(hn:p1_0.length < n):∀(Bg:Int),Iq L p1_0 p1_1 p1_2 n Bg 0=I6 L p1_0 p1_1 p1_2 p1_0 0 Bg:=lQ (fun k i n=>∀(Bg:Int),Iq L p1_0 p1_1 p1_2 n Bg (i:Int)=I6 L p1_0 p1_1 p1_2 k i Bg) hl hn (fun n i h Bg=>by simp only [Iq,Sp,I6,Kh h,aN,aB,aC]) (fun n i x k h hx ih Bg=>by simp only [Iq,Sp,I6,J3 h,m8 h,hx,B6 h hl,ih,aN,aB,aC])
def Gj(L:Nat)(p1_0:List B5)(p1_1:Aq):List B5→Nat→Int→List Br→List Bool→Option (Nat×Int×Int×List Br×List Bool)
 | [],i,Au,Bl,C5=>(some (1,(Au,(i:Int),Bl,C5)))
 |x::k,i,Au,Bl,C5=>(Option.bind (Mq L x p1_1 Bl C5 x) fun o8=>
 (bif (o8.1 != 0) then (some (0,(o8.1,(i:Int),o8.2.1,o8.2.2)))
 else (Gj L p1_0 p1_1 k (i+1) Au o8.2.1 o8.2.2)))
theorem Ahf(L:Nat)(p1_0:List B5)(p1_1:Aq)(n:Nat)(hl:p1_0.length≤maxLen)(hn:p1_0.length < n):∀(Au:Int) (Bl:List Br) (C5:List Bool),Gi L p1_0 p1_1 n Au 0 Bl C5=Gj L p1_0 p1_1 p1_0 0 Au Bl C5:=lQ (fun k i n=>∀(Au:Int) (Bl:List Br) (C5:List Bool),Gi L p1_0 p1_1 n Au (i:Int) Bl C5=Gj L p1_0 p1_1 k i Au Bl C5) hl hn (fun n i h Au Bl C5=>by simp only [Gi,Wd,Rn,M4,Gj,Kh h,aN,aB,aC]) (fun n i x k h hx ih Au Bl C5=>by simp only [Gi,Wd,Rn,M4,Gj,J3 h,m8 h,hx,B6 h hl,ih,aN,aB,aC])
def Kc(L:Nat)(p1_0:List Ax)(p1_1:Aq):List Ax→Nat→Int→List ByteArray→List Bool→Option (Nat×Int×Int×List ByteArray×List Bool)
 | [],i,Au,Bl,C5=>(some (1,(Au,(i:Int),Bl,C5)))
 |x::k,i,Au,Bl,C5=>(Option.bind (J4 L x p1_1 Bl C5 x) fun o9=>
 (bif (o9.1 != 0) then (some (0,(o9.1,(i:Int),o9.2.1,o9.2.2)))
 else (Kc L p1_0 p1_1 k (i+1) Au o9.2.1 o9.2.2)))
theorem Ahd(L:Nat)(p1_0:List Ax)(p1_1:Aq)(n:Nat)(hl:p1_0.length≤maxLen)(hn:p1_0.length < n):∀(Au:Int) (Bl:List ByteArray) (C5:List Bool),Gg L p1_0 p1_1 n Au 0 Bl C5=Kc L p1_0 p1_1 p1_0 0 Au Bl C5:=lQ (fun k i n=>∀(Au:Int) (Bl:List ByteArray) (C5:List Bool),Gg L p1_0 p1_1 n Au (i:Int) Bl C5=Kc L p1_0 p1_1 k i Au Bl C5) hl hn (fun n i h Au Bl C5=>by simp only [Gg,Wb,Rk,My,Kc,Kh h,aN,aB,aC]) (fun n i x k h hx ih Au Bl C5=>by simp only [Gg,Wb,Rk,My,Kc,J3 h,m8 h,hx,B6 h hl,ih,aN,aB,aC])
def Kd(L:Nat)(p8_0:List Aa)(p8_1:Aq)(p8_2:List ByteArray)(p8_3:List Bool):List Aa→Nat→Int→List ByteArray→List Bool→Option (Nat×Int×Int×List ByteArray×List Bool)
 | [],i,Cn,Jg,Jh=>(some (1,(Cn,(i:Int),Jg,Jh)))
 |x::k,i,Cn,Jg,Jh=>(Option.bind (Ij L x p8_1 p8_2 p8_3 Jg Jh x) fun o18=>
 (bif (o18.1 != 0) then (some (0,(o18.1,(i:Int),o18.2.1,o18.2.2)))
 else (Kd L p8_0 p8_1 p8_2 p8_3 k (i+1) Cn o18.2.1 o18.2.2)))
theorem Ahe(L:Nat)(p8_0:List Aa)(p8_1:Aq)(p8_2:List ByteArray)(p8_3:List Bool)(n:Nat)(hl:p8_0.length≤maxLen)(hn:p8_0.length < n):∀(Cn:Int) (Jg:List ByteArray) (Jh:List Bool),Gh L p8_0 p8_1 p8_2 p8_3 n Cn 0 Jg Jh=Kd L p8_0 p8_1 p8_2 p8_3 p8_0 0 Cn Jg Jh:=lQ (fun k i n=>∀(Cn:Int) (Jg:List ByteArray) (Jh:List Bool),Gh L p8_0 p8_1 p8_2 p8_3 n Cn (i:Int) Jg Jh=Kd L p8_0 p8_1 p8_2 p8_3 k i Cn Jg Jh) hl hn (fun n i h Cn Jg Jh=>by simp only [Gh,Wc,Pq,Lt,Kd,Kh h,aN,aB,aC]) (fun n i x k h hx ih Cn Jg Jh=>by simp only [Gh,Wc,Pq,Lt,Kd,J3 h,m8 h,hx,B6 h hl,ih,aN,aB,aC])
def Hy(L:Nat)(p1_1:List Ao)(p1_0:List Bu)(p1_2:Bk):List Bu→Nat→Bool→Option (Nat×Bool×Int)
 | [],i,Bg=>(some (1,(Bg,(i:Int))))
 |x::k,i,Bg=>(if ((i:Int) < (p1_1.length:Int)) then ((fun b1=>
 ((fun b2=>
 (bif (!b2) then (some (0,(false,(i:Int))))
 else (Hy L p1_1 p1_0 p1_2 k (i+1) Bg))) (bif b1 then ((((p1_1.getD (Int.toNat (i:Int)) default).Body).length:Int) == 0)
 else false))) (bif ((x.Name).toList == ((p1_1.getD (Int.toNat (i:Int)) default).Name).toList) then (x.Params == (((p1_1.getD (Int.toNat (i:Int)) default).Params).length:Int))
 else false)) else none)
theorem Ahb(L:Nat)(p1_1:List Ao)(p1_0:List Bu)(p1_2:Bk)(n:Nat)(hl:p1_0.length≤maxLen)(hn:p1_0.length < n):∀(Bg:Bool),Hu L p1_1 p1_0 p1_2 n Bg 0=Hy L p1_1 p1_0 p1_2 p1_0 0 Bg:=lQ (fun k i n=>∀(Bg:Bool),Hu L p1_1 p1_0 p1_2 n Bg (i:Int)=Hy L p1_1 p1_0 p1_2 k i Bg) hl hn (fun n i h Bg=>by simp only [Hu,Qu,Hy,Kh h,aN,aB,aC]) (fun n i x k h hx ih Bg=>by simp only [Hu,Qu,Hy,J3 h,m8 h,hx,B6 h hl,ih,aN,aB,aC])
def Dd(L:Nat)(a0:Ad):List D2→Nat→Int→List Dx→List Bool→Option (Nat×Int×Int×List Dx×List Bool)
 | [],i,Au,Df,Bl=>(some (1,(Au,(i:Int),Df,Bl)))
 |x::k,i,Au,Df,Bl=>((fun b1=>
 ((fun b2=>
 (bif b2 then (bif b2 then (some (0,(2,(i:Int),Df,Bl)))
 else (Ry (Df.findIdx? fun b=>(x.From == b.a0 && (x.To == b.a1))) (fun i3=>(bif (Bl.getD i3 default) then (some (0,(4,(i:Int),Df,Bl)))
 else (Ry (Df.findIdx? fun b=>(x.From == b.a0 && (x.To == b.a1))) (fun i4=>(Dd L a0 k (i+1) Au Df (Bl.set i4 true))) (Dd L a0 k (i+1) Au (Df++ [(⟨x.From,x.To⟩:Dx)]) (Bl++ [true]))))) (Ry (Df.findIdx? fun b=>(x.From == b.a0 && (x.To == b.a1))) (fun i5=>(Dd L a0 k (i+1) Au Df (Bl.set i5 true))) (Dd L a0 k (i+1) Au (Df++ [(⟨x.From,x.To⟩:Dx)]) (Bl++ [true])))))
 else ((fun b6=>
 (bif b6 then (some (0,(2,(i:Int),Df,Bl)))
 else (Ry (Df.findIdx? fun b=>(x.From == b.a0 && (x.To == b.a1))) (fun i7=>(bif (Bl.getD i7 default) then (some (0,(4,(i:Int),Df,Bl)))
 else (Ry (Df.findIdx? fun b=>(x.From == b.a0 && (x.To == b.a1))) (fun i8=>(Dd L a0 k (i+1) Au Df (Bl.set i8 true))) (Dd L a0 k (i+1) Au (Df++ [(⟨x.From,x.To⟩:Dx)]) (Bl++ [true]))))) (Ry (Df.findIdx? fun b=>(x.From == b.a0 && (x.To == b.a1))) (fun i9=>(Dd L a0 k (i+1) Au Df (Bl.set i9 true))) (Dd L a0 k (i+1) Au (Df++ [(⟨x.From,x.To⟩:Dx)]) (Bl++ [true])))))) (bif (decide (x.Delay < 1)) then true
 else (decide (x.Delay > 1000000000)))))) (bif b1 then true
 else (x.From == x.To)))) (bif (decide ((if x.To < x.From then x.To else x.From) < 0)) then true
 else (decide ((if x.To > x.From then x.To else x.From)≥(a0.Sites.length:Int)))))
theorem Akw(L:Nat)(a0:Ad)(n:Nat)(hl:a0.Links.length≤maxLen)(hn:a0.Links.length < n):∀(Au:Int) (Df:List Dx) (Bl:List Bool),Kk L a0 n Au 0 Df Bl=Dd L a0 a0.Links 0 Au Df Bl:=lQ (fun k i n=>∀(Au:Int) (Df:List Dx) (Bl:List Bool),Kk L a0 n Au (i:Int) Df Bl=Dd L a0 k i Au Df Bl) hl hn (fun n i h Au Df Bl=>by simp only [Kk,Uj,Dd,Kh h,aN,aB,aC]) (fun n i x k h hx ih Au Df Bl=>by simp only [Kk,Uj,Dd,J3 h,m8 h,hx,B6 h hl,ih,aN,aB,aC])
def L7(L:Nat)(p1_0:List D2)(p1_1:Ad)(p1_2:Int)(p1_3:Int):List D2→Nat→Int→Option (Nat×Int×Int)
 | [],i,Bg=>(some (1,(Bg,(i:Int))))
 |x::k,i,Bg=>((fun b1=>
 (bif b1 then (some (0,((i:Int),(i:Int))))
 else (L7 L p1_0 p1_1 p1_2 p1_3 k (i+1) Bg))) (bif (x.From == p1_2) then (x.To == p1_3)
 else false))
theorem Ami(L:Nat)(p1_0:List D2)(p1_1:Ad)(p1_2:Int)(p1_3:Int)(n:Nat)(hl:p1_0.length≤maxLen)(hn:p1_0.length < n):∀(Bg:Int),L6 L p1_0 p1_1 p1_2 p1_3 n Bg 0=L7 L p1_0 p1_1 p1_2 p1_3 p1_0 0 Bg:=lQ (fun k i n=>∀(Bg:Int),L6 L p1_0 p1_1 p1_2 p1_3 n Bg (i:Int)=L7 L p1_0 p1_1 p1_2 p1_3 k i Bg) hl hn (fun n i h Bg=>by simp only [L6,W9,L7,Kh h,aN,aB,aC]) (fun n i x k h hx ih Bg=>by simp only [L6,W9,L7,J3 h,m8 h,hx,B6 h hl,ih,aN,aB,aC])
def D9(Ay:Ar→Ab→Option Bool)(L:Nat)(p1_0:List Ab)(p1_1:Ar)(p1_2:Ab):List Ab→Nat→Int→Option (Nat×Int×Int)
 | [],i,Bg=>(some (1,(Bg,(i:Int))))
 |x::k,i,Bg=>(Option.bind (Ay (⟨(⟨p1_1.u_p.Name,p1_1.u_p.Sites,p1_1.u_p.Links⟩:Ad),p1_1.u_site,p1_1.u_c⟩:Ar) x) fun r2=>
 (bif (!r2) then (some (0,((i:Int),(i:Int))))
 else (D9 Ay L p1_0 p1_1 p1_2 k (i+1) Bg)))
theorem Acs(Ay:Ar→Ab→Option Bool)(L:Nat)(p1_0:List Ab)(p1_1:Ar)(p1_2:Ab)(n:Nat)(hl:p1_0.length≤maxLen)(hn:p1_0.length < n):∀(Bg:Int),Ey Ay L p1_0 p1_1 p1_2 n Bg 0=D9 Ay L p1_0 p1_1 p1_2 p1_0 0 Bg:=lQ (fun k i n=>∀(Bg:Int),Ey Ay L p1_0 p1_1 p1_2 n Bg (i:Int)=D9 Ay L p1_0 p1_1 p1_2 k i Bg) hl hn (fun n i h Bg=>by simp only [Ey,Ll,D9,Kh h,aN,aB,aC]) (fun n i x k h hx ih Bg=>by simp only [Ey,Ll,D9,J3 h,m8 h,hx,B6 h hl,ih,aN,aB,aC])
def D1(L:Nat)(r9:List Ab)(a0:Ar)(a1:Bm):List Ab→Nat→Int→Option (Nat×Int×Int)
 | [],i,Au=>(some (1,(Au,(i:Int))))
 |x::k,i,Au=>(Option.bind (Hr L x) fun r10=>
 (bif (r10 != 0) then (some (0,(r10,(i:Int))))
 else (Option.bind (Cx L (⟨(⟨a0.u_p.Name,a0.u_p.Sites,a0.u_p.Links⟩:Ad),a0.u_site,a0.u_c⟩:Ar) x) fun r11=>
 (bif (!r11) then (some (0,(2,(i:Int))))
 else (D1 L r9 a0 a1 k (i+1) Au)))))
theorem Ab1(L:Nat)(r9:List Ab)(a0:Ar)(a1:Bm)(n:Nat)(hl:r9.length≤maxLen)(hn:r9.length < n):∀(Au:Int),Ct L r9 a0 a1 n Au 0=D1 L r9 a0 a1 r9 0 Au:=lQ (fun k i n=>∀(Au:Int),Ct L r9 a0 a1 n Au (i:Int)=D1 L r9 a0 a1 k i Au) hl hn (fun n i h Au=>by simp only [Ct,Kt,D1,Kh h,aN,aB,aC]) (fun n i x k h hx ih Au=>by simp only [Ct,Kt,D1,J3 h,m8 h,hx,B6 h hl,ih,aN,aB,aC])
def Gu(L:Nat)(a2:Bu)(a0:Ad)(a1:Int):List Bm→Nat→Int→Option (Nat×Int×Int)
 | [],i,Au=>(some (1,(Au,(i:Int))))
 |x::k,i,Au=>(Option.bind (Hq L (⟨(⟨a0.Name,a0.Sites,a0.Links⟩:Ad),a1,a2⟩:Ar) (⟨x.Op,x.A,x.B,x.C,(x.E),(x.F),x.Args,(x.Dist),x.Flag⟩:Bm)) fun r6=>
 (bif (r6 != 0) then (some (0,(r6,(i:Int))))
 else (Gu L a2 a0 a1 k (i+1) Au)))
theorem Afp(L:Nat)(a2:Bu)(a0:Ad)(a1:Int)(n:Nat)(hl:a2.Instrs.length≤maxLen)(hn:a2.Instrs.length < n):∀(Au:Int),Gs L a2 a0 a1 n Au 0=Gu L a2 a0 a1 a2.Instrs 0 Au:=lQ (fun k i n=>∀(Au:Int),Gs L a2 a0 a1 n Au (i:Int)=Gu L a2 a0 a1 k i Au) hl hn (fun n i h Au=>by simp only [Gs,O6,Gu,Kh h,aN,aB,aC]) (fun n i x k h hx ih Au=>by simp only [Gs,O6,Gu,J3 h,m8 h,hx,B6 h hl,ih,aN,aB,aC])
def Eg(L:Nat)(a0:Ad):List Bk→Nat→Int→List ByteArray→List Bool→Option (Nat×Int×Int×List ByteArray×List Bool)
 | [],i,Au,Df,Bl=>(some (1,(Au,(i:Int),Df,Bl)))
 |x::k,i,Au,Df,Bl=>(Option.bind (Oo L (⟨a0.Name,[],[(x.Decl)],[]⟩:Aq)) fun r2=>
 (bif (r2 != 0) then (some (0,(r2,(i:Int),Df,Bl)))
 else (Ry (Df.findIdx? fun b=>(x.Decl).Name == b) (fun i3=>(bif (Bl.getD i3 default) then (some (0,(4,(i:Int),Df,Bl)))
 else (Option.bind (Jy L (⟨(x.Decl),x.Routines⟩:Bk)) fun r4=>
 (bif (!r4) then (some (0,(8,(i:Int),Df,Bl)))
 else (Ry (Df.findIdx? fun b=>(x.Decl).Name == b) (fun i5=>(Eg L a0 k (i+1) Au Df (Bl.set i5 true))) (Eg L a0 k (i+1) Au (Df++ [(x.Decl).Name]) (Bl++ [true]))))))) (Option.bind (Jy L (⟨(x.Decl),x.Routines⟩:Bk)) fun r6=>
 (bif (!r6) then (some (0,(8,(i:Int),Df,Bl)))
 else (Ry (Df.findIdx? fun b=>(x.Decl).Name == b) (fun i7=>(Eg L a0 k (i+1) Au Df (Bl.set i7 true))) (Eg L a0 k (i+1) Au (Df++ [(x.Decl).Name]) (Bl++ [true]))))))))
theorem Ais(L:Nat)(a0:Ad)(n:Nat)(hl:a0.Sites.length≤maxLen)(hn:a0.Sites.length < n):∀(Au:Int) (Df:List ByteArray) (Bl:List Bool),Im L a0 n Au 0 Df Bl=Eg L a0 a0.Sites 0 Au Df Bl:=lQ (fun k i n=>∀(Au:Int) (Df:List ByteArray) (Bl:List Bool),Im L a0 n Au (i:Int) Df Bl=Eg L a0 k i Au Df Bl) hl hn (fun n i h Au Df Bl=>by simp only [Im,Sk,Eg,Kh h,aN,aB,aC]) (fun n i x k h hx ih Au Df Bl=>by simp only [Im,Sk,Eg,J3 h,m8 h,hx,B6 h hl,ih,aN,aB,aC])
def I3(L:Nat)(Bw:Int)(a0:Ad)(o8:Nat×Int×Int×List ByteArray×List Bool):List Bu→Nat→Int→Option (Nat×Int×Int)
 | [],i,Et=>(some (1,(Et,(i:Int))))
 |x::k,i,Et=>(Option.bind (Mh L (⟨a0.Name,a0.Sites,a0.Links⟩:Ad) Bw x) fun r10=>
 (bif (r10 != 0) then (some (0,(r10,(i:Int))))
 else (I3 L Bw a0 o8 k (i+1) Et)))
theorem Aiu(L:Nat)(Bw:Int)(a0:Ad)(o8:Nat×Int×Int×List ByteArray×List Bool)(n:Nat)(hl:((a0.Sites.getD (Int.toNat Bw) default).Routines).length≤maxLen)(hn:((a0.Sites.getD (Int.toNat Bw) default).Routines).length < n):∀(Et:Int),Gy L Bw a0 o8 n Et 0=I3 L Bw a0 o8 ((a0.Sites.getD (Int.toNat Bw) default).Routines) 0 Et:=lQ (fun k i n=>∀(Et:Int),Gy L Bw a0 o8 n Et (i:Int)=I3 L Bw a0 o8 k i Et) hl hn (fun n i h Et=>by simp only [Gy,Sl,I3,Kh h,aN,aB,aC]) (fun n i x k h hx ih Et=>by simp only [Gy,Sl,I3,J3 h,m8 h,hx,B6 h hl,ih,aN,aB,aC])
def I2(L:Nat)(a0:Ad)(o8:Nat×Int×Int×List ByteArray×List Bool):List Bk→Nat→Int→Option (Nat×Int×Int)
 | [],i,Cn=>(some (1,(Cn,(i:Int))))
 |x::k,i,Cn=>(Option.bind (Gy L (i:Int) a0 o8 L Cn 0) fun o11=>
 (Ahw o11.1 [(some (0,(o11.2.1,(i:Int)))),(I2 L a0 o8 k (i+1) o11.2.1)]))
theorem Ait(L:Nat)(a0:Ad)(o8:Nat×Int×Int×List ByteArray×List Bool)(n:Nat)(hl:a0.Sites.length≤maxLen)(hn:a0.Sites.length < n):∀(Cn:Int),Gx L a0 o8 n Cn 0=I2 L a0 o8 a0.Sites 0 Cn:=lQ (fun k i n=>∀(Cn:Int),Gx L a0 o8 n Cn (i:Int)=I2 L a0 o8 k i Cn) hl hn (fun n i h Cn=>by simp only [Gx,Ye,S8,N5,I2,Kh h,aN,aB,aC]) (fun n i x k h hx ih Cn=>by simp only [Gx,Ye,S8,N5,I2,J3 h,m8 h,hx,B6 h hl,ih,aN,aB,aC])
def Ac(L:Nat)(a2:Int)(a3:Int)(a1:List Bo)(a0:Ad):List Bo→Nat→List Aw→List Bool→List Int→List Int→List Int→Option (Nat×Int×List Aw×List Bool×List Int×List Int×List Int)
 | [],i,Ah,Aj,Ak,Ai,Al=>(some (0,((i:Int),Ah,Aj,Ak,Ai,Al)))
 |x::k,i,Ah,Aj,Ak,Ai,Al=>((fun b1=>
 (bif b1 then (bif (x.What == 1) then ((fun b2=>
 (bif b2 then (if (0≤x.Index) then (if (x.Index < (((Int.toNat (((a0.Sites.getD (Int.toNat a2) default).Routines).length:Int)):Nat):Int)) then (if (0≤x.Index) then (if (x.Index < (((Int.toNat (((a0.Sites.getD (Int.toNat a2) default).Routines).length:Int)):Nat):Int)) then (Ac L a2 a3 a1 a0 k (i+1) Ah Aj (Ak.set (Int.toNat (x.Index)) (Bi ((Ak.getD (Int.toNat (x.Index)) default)+1))) Ai Al) else none) else none) else none) else none)
 else (Ac L a2 a3 a1 a0 k (i+1) Ah Aj Ak Ai Al))) (bif (decide (x.Index≥0)) then (decide (x.Index < ((Int.toNat (((a0.Sites.getD (Int.toNat a2) default).Routines).length:Int)):Int)))
 else false))
 else (bif (x.What == 2) then ((fun b3=>
 (bif b3 then (if (0≤x.Index) then (if (x.Index < (((Int.toNat (((a0.Sites.getD (Int.toNat a2) default).Routines).length:Int)):Nat):Int)) then (if (0≤x.Index) then (if (x.Index < (((Int.toNat (((a0.Sites.getD (Int.toNat a2) default).Routines).length:Int)):Nat):Int)) then (Option.bind (Dp L a0 a2 a1 (i:Int) a3 Ak Ai Al L 0 Ah Aj) fun o72=>
 (Ahw o72.1 [(Ac L a2 a3 a1 a0 k (i+1) o72.2.2.1 o72.2.2.2 (Ak.set (Int.toNat (x.Index)) (Bi ((Ak.getD (Int.toNat (x.Index)) default)+(-1)))) Ai Al)])) else none) else none) else none) else none)
 else (Option.bind (Dq L a0 a2 a1 (i:Int) a3 Ak Ai Al L 0 Ah Aj) fun o73=>
 (Ahw o73.1 [(Ac L a2 a3 a1 a0 k (i+1) o73.2.2.1 o73.2.2.2 Ak Ai Al)])))) (bif (decide (x.Index≥0)) then (decide (x.Index < ((Int.toNat (((a0.Sites.getD (Int.toNat a2) default).Routines).length:Int)):Int)))
 else false))
 else (bif (x.What == 8) then ((fun b6=>
 (bif b6 then (if (0≤x.Index) then (if (x.Index < (((Int.toNat ((((a0.Sites.getD (Int.toNat a2) default).Decl).Stores).length:Int)):Nat):Int)) then (if (0≤x.Index) then (if (x.Index < (((Int.toNat ((((a0.Sites.getD (Int.toNat a2) default).Decl).Stores).length:Int)):Nat):Int)) then (Ac L a2 a3 a1 a0 k (i+1) Ah Aj Ak Ai (Al.set (Int.toNat (x.Index)) (Bi ((Al.getD (Int.toNat (x.Index)) default)+1)))) else none) else none) else none) else none)
 else (Ac L a2 a3 a1 a0 k (i+1) Ah Aj Ak Ai Al))) (bif (decide (x.Index≥0)) then (decide (x.Index < ((Int.toNat ((((a0.Sites.getD (Int.toNat a2) default).Decl).Stores).length:Int)):Int)))
 else false))
 else (bif (x.What == 9) then ((fun b7=>
 (bif b7 then (if (0≤x.Index) then (if (x.Index < (((Int.toNat ((((a0.Sites.getD (Int.toNat a2) default).Decl).Stores).length:Int)):Nat):Int)) then (if (0≤x.Index) then (if (x.Index < (((Int.toNat ((((a0.Sites.getD (Int.toNat a2) default).Decl).Stores).length:Int)):Nat):Int)) then (Ac L a2 a3 a1 a0 k (i+1) Ah Aj Ak Ai (Al.set (Int.toNat (x.Index)) (Bi ((Al.getD (Int.toNat (x.Index)) default)+(-1))))) else none) else none) else none) else none)
 else (Ac L a2 a3 a1 a0 k (i+1) Ah Aj Ak Ai Al))) (bif (decide (x.Index≥0)) then (decide (x.Index < ((Int.toNat ((((a0.Sites.getD (Int.toNat a2) default).Decl).Stores).length:Int)):Int)))
 else false))
 else (bif (x.What == 4) then (bif (x.What == 4) then (bif (decide (x.Index < 0)) then (Ac L a2 a3 a1 a0 k (i+1) Ah Aj Ak Ai Al)
 else (bif (decide (x.Index≥((Int.toNat ((((a0.Sites.getD (Int.toNat a2) default).Decl).Resources).length:Int)):Int))) then (Ac L a2 a3 a1 a0 k (i+1) Ah Aj Ak Ai Al)
 else (bif (x.What != 5) then (bif (decide (x.Value < 1)) then (Ac L a2 a3 a1 a0 k (i+1) Ah Aj Ak Ai Al)
 else (bif (decide (x.Value > 1000)) then (Ac L a2 a3 a1 a0 k (i+1) Ah Aj Ak Ai Al)
 else (bif (x.What == 4) then ((fun b8=>
 (bif b8 then (if (0≤x.Index) then (if (x.Index < (((Int.toNat ((((a0.Sites.getD (Int.toNat a2) default).Decl).Resources).length:Int)):Nat):Int)) then (if (0≤x.Index) then (if (x.Index < (((Int.toNat ((((a0.Sites.getD (Int.toNat a2) default).Decl).Resources).length:Int)):Nat):Int)) then (Ry (Ah.findIdx? fun b=>(x.Proc == b.u_proc && (x.Index == b.u_resource))) (fun i9=>(Ac L a2 a3 a1 a0 k (i+1) ((Ah.take i9).drop 0++(Ah.take Ah.length).drop (i9+1)) ((Aj.take i9).drop 0++(Aj.take Aj.length).drop (i9+1)) Ak (Ai.set (Int.toNat (x.Index)) (Bi ((Ai.getD (Int.toNat (x.Index)) default)+x.Value))) Al)) (Ac L a2 a3 a1 a0 k (i+1) Ah Aj Ak (Ai.set (Int.toNat (x.Index)) (Bi ((Ai.getD (Int.toNat (x.Index)) default)+x.Value))) Al)) else none) else none) else none) else none)
 else (Ry (Ah.findIdx? fun b=>(x.Proc == b.u_proc && (x.Index == b.u_resource))) (fun i10=>(Ac L a2 a3 a1 a0 k (i+1) ((Ah.take i10).drop 0++(Ah.take Ah.length).drop (i10+1)) ((Aj.take i10).drop 0++(Aj.take Aj.length).drop (i10+1)) Ak Ai Al)) (Ac L a2 a3 a1 a0 k (i+1) Ah Aj Ak Ai Al)))) (bif (decide (x.Index≥0)) then (decide (x.Index < ((Int.toNat ((((a0.Sites.getD (Int.toNat a2) default).Decl).Resources).length:Int)):Int)))
 else false))
 else (bif (x.What == 6) then ((fun b11=>
 (bif b11 then (if (0≤x.Index) then (if (x.Index < (((Int.toNat ((((a0.Sites.getD (Int.toNat a2) default).Decl).Resources).length:Int)):Nat):Int)) then (if (0≤x.Index) then (if (x.Index < (((Int.toNat ((((a0.Sites.getD (Int.toNat a2) default).Decl).Resources).length:Int)):Nat):Int)) then (Ac L a2 a3 a1 a0 k (i+1) Ah Aj Ak (Ai.set (Int.toNat (x.Index)) (Bi ((Ai.getD (Int.toNat (x.Index)) default)+(Bi (0 - x.Value))))) Al) else none) else none) else none) else none)
 else (Ac L a2 a3 a1 a0 k (i+1) Ah Aj Ak Ai Al))) (bif (decide (x.Index≥0)) then (decide (x.Index < ((Int.toNat ((((a0.Sites.getD (Int.toNat a2) default).Decl).Resources).length:Int)):Int)))
 else false))
 else (bif (x.What == 7) then ((fun b12=>
 (bif b12 then (if (0≤x.Index) then (if (x.Index < (((Int.toNat ((((a0.Sites.getD (Int.toNat a2) default).Decl).Resources).length:Int)):Nat):Int)) then (if (0≤x.Index) then (if (x.Index < (((Int.toNat ((((a0.Sites.getD (Int.toNat a2) default).Decl).Resources).length:Int)):Nat):Int)) then (Ry (Ah.findIdx? fun b=>(x.Proc == b.u_proc && (x.Index == b.u_resource))) (fun i13=>(Ac L a2 a3 a1 a0 k (i+1) Ah (Aj.set i13 true) Ak (Ai.set (Int.toNat (x.Index)) (Bi ((Ai.getD (Int.toNat (x.Index)) default)+(Bi (0 - x.Value))))) Al)) (Ac L a2 a3 a1 a0 k (i+1) (Ah++ [(⟨x.Proc,x.Index⟩:Aw)]) (Aj++ [true]) Ak (Ai.set (Int.toNat (x.Index)) (Bi ((Ai.getD (Int.toNat (x.Index)) default)+(Bi (0 - x.Value))))) Al)) else none) else none) else none) else none)
 else (Ry (Ah.findIdx? fun b=>(x.Proc == b.u_proc && (x.Index == b.u_resource))) (fun i14=>(Ac L a2 a3 a1 a0 k (i+1) Ah (Aj.set i14 true) Ak Ai Al)) (Ac L a2 a3 a1 a0 k (i+1) (Ah++ [(⟨x.Proc,x.Index⟩:Aw)]) (Aj++ [true]) Ak Ai Al)))) (bif (decide (x.Index≥0)) then (decide (x.Index < ((Int.toNat ((((a0.Sites.getD (Int.toNat a2) default).Decl).Resources).length:Int)):Int)))
 else false))
 else (bif (x.What == 5) then (Ry (Ah.findIdx? fun b=>(x.Proc == b.u_proc && (x.Index == b.u_resource))) (fun i15=>(Ac L a2 a3 a1 a0 k (i+1) Ah (Aj.set i15 true) Ak Ai Al)) (Ac L a2 a3 a1 a0 k (i+1) (Ah++ [(⟨x.Proc,x.Index⟩:Aw)]) (Aj++ [true]) Ak Ai Al))
 else (Ac L a2 a3 a1 a0 k (i+1) Ah Aj Ak Ai Al)))))))
 else (bif (x.What == 4) then ((fun b16=>
 (bif b16 then (if (0≤x.Index) then (if (x.Index < (((Int.toNat ((((a0.Sites.getD (Int.toNat a2) default).Decl).Resources).length:Int)):Nat):Int)) then (if (0≤x.Index) then (if (x.Index < (((Int.toNat ((((a0.Sites.getD (Int.toNat a2) default).Decl).Resources).length:Int)):Nat):Int)) then (Ry (Ah.findIdx? fun b=>(x.Proc == b.u_proc && (x.Index == b.u_resource))) (fun i17=>(Ac L a2 a3 a1 a0 k (i+1) ((Ah.take i17).drop 0++(Ah.take Ah.length).drop (i17+1)) ((Aj.take i17).drop 0++(Aj.take Aj.length).drop (i17+1)) Ak (Ai.set (Int.toNat (x.Index)) (Bi ((Ai.getD (Int.toNat (x.Index)) default)+x.Value))) Al)) (Ac L a2 a3 a1 a0 k (i+1) Ah Aj Ak (Ai.set (Int.toNat (x.Index)) (Bi ((Ai.getD (Int.toNat (x.Index)) default)+x.Value))) Al)) else none) else none) else none) else none)
 else (Ry (Ah.findIdx? fun b=>(x.Proc == b.u_proc && (x.Index == b.u_resource))) (fun i18=>(Ac L a2 a3 a1 a0 k (i+1) ((Ah.take i18).drop 0++(Ah.take Ah.length).drop (i18+1)) ((Aj.take i18).drop 0++(Aj.take Aj.length).drop (i18+1)) Ak Ai Al)) (Ac L a2 a3 a1 a0 k (i+1) Ah Aj Ak Ai Al)))) (bif (decide (x.Index≥0)) then (decide (x.Index < ((Int.toNat ((((a0.Sites.getD (Int.toNat a2) default).Decl).Resources).length:Int)):Int)))
 else false))
 else (bif (x.What == 6) then ((fun b19=>
 (bif b19 then (if (0≤x.Index) then (if (x.Index < (((Int.toNat ((((a0.Sites.getD (Int.toNat a2) default).Decl).Resources).length:Int)):Nat):Int)) then (if (0≤x.Index) then (if (x.Index < (((Int.toNat ((((a0.Sites.getD (Int.toNat a2) default).Decl).Resources).length:Int)):Nat):Int)) then (Ac L a2 a3 a1 a0 k (i+1) Ah Aj Ak (Ai.set (Int.toNat (x.Index)) (Bi ((Ai.getD (Int.toNat (x.Index)) default)+(Bi (0 - x.Value))))) Al) else none) else none) else none) else none)
 else (Ac L a2 a3 a1 a0 k (i+1) Ah Aj Ak Ai Al))) (bif (decide (x.Index≥0)) then (decide (x.Index < ((Int.toNat ((((a0.Sites.getD (Int.toNat a2) default).Decl).Resources).length:Int)):Int)))
 else false))
 else (bif (x.What == 7) then ((fun b20=>
 (bif b20 then (if (0≤x.Index) then (if (x.Index < (((Int.toNat ((((a0.Sites.getD (Int.toNat a2) default).Decl).Resources).length:Int)):Nat):Int)) then (if (0≤x.Index) then (if (x.Index < (((Int.toNat ((((a0.Sites.getD (Int.toNat a2) default).Decl).Resources).length:Int)):Nat):Int)) then (Ry (Ah.findIdx? fun b=>(x.Proc == b.u_proc && (x.Index == b.u_resource))) (fun i21=>(Ac L a2 a3 a1 a0 k (i+1) Ah (Aj.set i21 true) Ak (Ai.set (Int.toNat (x.Index)) (Bi ((Ai.getD (Int.toNat (x.Index)) default)+(Bi (0 - x.Value))))) Al)) (Ac L a2 a3 a1 a0 k (i+1) (Ah++ [(⟨x.Proc,x.Index⟩:Aw)]) (Aj++ [true]) Ak (Ai.set (Int.toNat (x.Index)) (Bi ((Ai.getD (Int.toNat (x.Index)) default)+(Bi (0 - x.Value))))) Al)) else none) else none) else none) else none)
 else (Ry (Ah.findIdx? fun b=>(x.Proc == b.u_proc && (x.Index == b.u_resource))) (fun i22=>(Ac L a2 a3 a1 a0 k (i+1) Ah (Aj.set i22 true) Ak Ai Al)) (Ac L a2 a3 a1 a0 k (i+1) (Ah++ [(⟨x.Proc,x.Index⟩:Aw)]) (Aj++ [true]) Ak Ai Al)))) (bif (decide (x.Index≥0)) then (decide (x.Index < ((Int.toNat ((((a0.Sites.getD (Int.toNat a2) default).Decl).Resources).length:Int)):Int)))
 else false))
 else (bif (x.What == 5) then (Ry (Ah.findIdx? fun b=>(x.Proc == b.u_proc && (x.Index == b.u_resource))) (fun i23=>(Ac L a2 a3 a1 a0 k (i+1) Ah (Aj.set i23 true) Ak Ai Al)) (Ac L a2 a3 a1 a0 k (i+1) (Ah++ [(⟨x.Proc,x.Index⟩:Aw)]) (Aj++ [true]) Ak Ai Al))
 else (Ac L a2 a3 a1 a0 k (i+1) Ah Aj Ak Ai Al))))))))
 else (Ac L a2 a3 a1 a0 k (i+1) Ah Aj Ak Ai Al))
 else (bif (x.What == 6) then (bif (x.What == 6) then (bif (decide (x.Index < 0)) then (Ac L a2 a3 a1 a0 k (i+1) Ah Aj Ak Ai Al)
 else (bif (decide (x.Index≥((Int.toNat ((((a0.Sites.getD (Int.toNat a2) default).Decl).Resources).length:Int)):Int))) then (Ac L a2 a3 a1 a0 k (i+1) Ah Aj Ak Ai Al)
 else (bif (x.What != 5) then (bif (decide (x.Value < 1)) then (Ac L a2 a3 a1 a0 k (i+1) Ah Aj Ak Ai Al)
 else (bif (decide (x.Value > 1000)) then (Ac L a2 a3 a1 a0 k (i+1) Ah Aj Ak Ai Al)
 else (bif (x.What == 4) then ((fun b24=>
 (bif b24 then (if (0≤x.Index) then (if (x.Index < (((Int.toNat ((((a0.Sites.getD (Int.toNat a2) default).Decl).Resources).length:Int)):Nat):Int)) then (if (0≤x.Index) then (if (x.Index < (((Int.toNat ((((a0.Sites.getD (Int.toNat a2) default).Decl).Resources).length:Int)):Nat):Int)) then (Ry (Ah.findIdx? fun b=>(x.Proc == b.u_proc && (x.Index == b.u_resource))) (fun i25=>(Ac L a2 a3 a1 a0 k (i+1) ((Ah.take i25).drop 0++(Ah.take Ah.length).drop (i25+1)) ((Aj.take i25).drop 0++(Aj.take Aj.length).drop (i25+1)) Ak (Ai.set (Int.toNat (x.Index)) (Bi ((Ai.getD (Int.toNat (x.Index)) default)+x.Value))) Al)) (Ac L a2 a3 a1 a0 k (i+1) Ah Aj Ak (Ai.set (Int.toNat (x.Index)) (Bi ((Ai.getD (Int.toNat (x.Index)) default)+x.Value))) Al)) else none) else none) else none) else none)
 else (Ry (Ah.findIdx? fun b=>(x.Proc == b.u_proc && (x.Index == b.u_resource))) (fun i26=>(Ac L a2 a3 a1 a0 k (i+1) ((Ah.take i26).drop 0++(Ah.take Ah.length).drop (i26+1)) ((Aj.take i26).drop 0++(Aj.take Aj.length).drop (i26+1)) Ak Ai Al)) (Ac L a2 a3 a1 a0 k (i+1) Ah Aj Ak Ai Al)))) (bif (decide (x.Index≥0)) then (decide (x.Index < ((Int.toNat ((((a0.Sites.getD (Int.toNat a2) default).Decl).Resources).length:Int)):Int)))
 else false))
 else (bif (x.What == 6) then ((fun b27=>
 (bif b27 then (if (0≤x.Index) then (if (x.Index < (((Int.toNat ((((a0.Sites.getD (Int.toNat a2) default).Decl).Resources).length:Int)):Nat):Int)) then (if (0≤x.Index) then (if (x.Index < (((Int.toNat ((((a0.Sites.getD (Int.toNat a2) default).Decl).Resources).length:Int)):Nat):Int)) then (Ac L a2 a3 a1 a0 k (i+1) Ah Aj Ak (Ai.set (Int.toNat (x.Index)) (Bi ((Ai.getD (Int.toNat (x.Index)) default)+(Bi (0 - x.Value))))) Al) else none) else none) else none) else none)
 else (Ac L a2 a3 a1 a0 k (i+1) Ah Aj Ak Ai Al))) (bif (decide (x.Index≥0)) then (decide (x.Index < ((Int.toNat ((((a0.Sites.getD (Int.toNat a2) default).Decl).Resources).length:Int)):Int)))
 else false))
 else (bif (x.What == 7) then ((fun b28=>
 (bif b28 then (if (0≤x.Index) then (if (x.Index < (((Int.toNat ((((a0.Sites.getD (Int.toNat a2) default).Decl).Resources).length:Int)):Nat):Int)) then (if (0≤x.Index) then (if (x.Index < (((Int.toNat ((((a0.Sites.getD (Int.toNat a2) default).Decl).Resources).length:Int)):Nat):Int)) then (Ry (Ah.findIdx? fun b=>(x.Proc == b.u_proc && (x.Index == b.u_resource))) (fun i29=>(Ac L a2 a3 a1 a0 k (i+1) Ah (Aj.set i29 true) Ak (Ai.set (Int.toNat (x.Index)) (Bi ((Ai.getD (Int.toNat (x.Index)) default)+(Bi (0 - x.Value))))) Al)) (Ac L a2 a3 a1 a0 k (i+1) (Ah++ [(⟨x.Proc,x.Index⟩:Aw)]) (Aj++ [true]) Ak (Ai.set (Int.toNat (x.Index)) (Bi ((Ai.getD (Int.toNat (x.Index)) default)+(Bi (0 - x.Value))))) Al)) else none) else none) else none) else none)
 else (Ry (Ah.findIdx? fun b=>(x.Proc == b.u_proc && (x.Index == b.u_resource))) (fun i30=>(Ac L a2 a3 a1 a0 k (i+1) Ah (Aj.set i30 true) Ak Ai Al)) (Ac L a2 a3 a1 a0 k (i+1) (Ah++ [(⟨x.Proc,x.Index⟩:Aw)]) (Aj++ [true]) Ak Ai Al)))) (bif (decide (x.Index≥0)) then (decide (x.Index < ((Int.toNat ((((a0.Sites.getD (Int.toNat a2) default).Decl).Resources).length:Int)):Int)))
 else false))
 else (bif (x.What == 5) then (Ry (Ah.findIdx? fun b=>(x.Proc == b.u_proc && (x.Index == b.u_resource))) (fun i31=>(Ac L a2 a3 a1 a0 k (i+1) Ah (Aj.set i31 true) Ak Ai Al)) (Ac L a2 a3 a1 a0 k (i+1) (Ah++ [(⟨x.Proc,x.Index⟩:Aw)]) (Aj++ [true]) Ak Ai Al))
 else (Ac L a2 a3 a1 a0 k (i+1) Ah Aj Ak Ai Al)))))))
 else (bif (x.What == 4) then ((fun b32=>
 (bif b32 then (if (0≤x.Index) then (if (x.Index < (((Int.toNat ((((a0.Sites.getD (Int.toNat a2) default).Decl).Resources).length:Int)):Nat):Int)) then (if (0≤x.Index) then (if (x.Index < (((Int.toNat ((((a0.Sites.getD (Int.toNat a2) default).Decl).Resources).length:Int)):Nat):Int)) then (Ry (Ah.findIdx? fun b=>(x.Proc == b.u_proc && (x.Index == b.u_resource))) (fun i33=>(Ac L a2 a3 a1 a0 k (i+1) ((Ah.take i33).drop 0++(Ah.take Ah.length).drop (i33+1)) ((Aj.take i33).drop 0++(Aj.take Aj.length).drop (i33+1)) Ak (Ai.set (Int.toNat (x.Index)) (Bi ((Ai.getD (Int.toNat (x.Index)) default)+x.Value))) Al)) (Ac L a2 a3 a1 a0 k (i+1) Ah Aj Ak (Ai.set (Int.toNat (x.Index)) (Bi ((Ai.getD (Int.toNat (x.Index)) default)+x.Value))) Al)) else none) else none) else none) else none)
 else (Ry (Ah.findIdx? fun b=>(x.Proc == b.u_proc && (x.Index == b.u_resource))) (fun i34=>(Ac L a2 a3 a1 a0 k (i+1) ((Ah.take i34).drop 0++(Ah.take Ah.length).drop (i34+1)) ((Aj.take i34).drop 0++(Aj.take Aj.length).drop (i34+1)) Ak Ai Al)) (Ac L a2 a3 a1 a0 k (i+1) Ah Aj Ak Ai Al)))) (bif (decide (x.Index≥0)) then (decide (x.Index < ((Int.toNat ((((a0.Sites.getD (Int.toNat a2) default).Decl).Resources).length:Int)):Int)))
 else false))
 else (bif (x.What == 6) then ((fun b35=>
 (bif b35 then (if (0≤x.Index) then (if (x.Index < (((Int.toNat ((((a0.Sites.getD (Int.toNat a2) default).Decl).Resources).length:Int)):Nat):Int)) then (if (0≤x.Index) then (if (x.Index < (((Int.toNat ((((a0.Sites.getD (Int.toNat a2) default).Decl).Resources).length:Int)):Nat):Int)) then (Ac L a2 a3 a1 a0 k (i+1) Ah Aj Ak (Ai.set (Int.toNat (x.Index)) (Bi ((Ai.getD (Int.toNat (x.Index)) default)+(Bi (0 - x.Value))))) Al) else none) else none) else none) else none)
 else (Ac L a2 a3 a1 a0 k (i+1) Ah Aj Ak Ai Al))) (bif (decide (x.Index≥0)) then (decide (x.Index < ((Int.toNat ((((a0.Sites.getD (Int.toNat a2) default).Decl).Resources).length:Int)):Int)))
 else false))
 else (bif (x.What == 7) then ((fun b36=>
 (bif b36 then (if (0≤x.Index) then (if (x.Index < (((Int.toNat ((((a0.Sites.getD (Int.toNat a2) default).Decl).Resources).length:Int)):Nat):Int)) then (if (0≤x.Index) then (if (x.Index < (((Int.toNat ((((a0.Sites.getD (Int.toNat a2) default).Decl).Resources).length:Int)):Nat):Int)) then (Ry (Ah.findIdx? fun b=>(x.Proc == b.u_proc && (x.Index == b.u_resource))) (fun i37=>(Ac L a2 a3 a1 a0 k (i+1) Ah (Aj.set i37 true) Ak (Ai.set (Int.toNat (x.Index)) (Bi ((Ai.getD (Int.toNat (x.Index)) default)+(Bi (0 - x.Value))))) Al)) (Ac L a2 a3 a1 a0 k (i+1) (Ah++ [(⟨x.Proc,x.Index⟩:Aw)]) (Aj++ [true]) Ak (Ai.set (Int.toNat (x.Index)) (Bi ((Ai.getD (Int.toNat (x.Index)) default)+(Bi (0 - x.Value))))) Al)) else none) else none) else none) else none)
 else (Ry (Ah.findIdx? fun b=>(x.Proc == b.u_proc && (x.Index == b.u_resource))) (fun i38=>(Ac L a2 a3 a1 a0 k (i+1) Ah (Aj.set i38 true) Ak Ai Al)) (Ac L a2 a3 a1 a0 k (i+1) (Ah++ [(⟨x.Proc,x.Index⟩:Aw)]) (Aj++ [true]) Ak Ai Al)))) (bif (decide (x.Index≥0)) then (decide (x.Index < ((Int.toNat ((((a0.Sites.getD (Int.toNat a2) default).Decl).Resources).length:Int)):Int)))
 else false))
 else (bif (x.What == 5) then (Ry (Ah.findIdx? fun b=>(x.Proc == b.u_proc && (x.Index == b.u_resource))) (fun i39=>(Ac L a2 a3 a1 a0 k (i+1) Ah (Aj.set i39 true) Ak Ai Al)) (Ac L a2 a3 a1 a0 k (i+1) (Ah++ [(⟨x.Proc,x.Index⟩:Aw)]) (Aj++ [true]) Ak Ai Al))
 else (Ac L a2 a3 a1 a0 k (i+1) Ah Aj Ak Ai Al))))))))
 else (Ac L a2 a3 a1 a0 k (i+1) Ah Aj Ak Ai Al))
 else (bif (x.What == 7) then (bif (x.What == 7) then (bif (decide (x.Index < 0)) then (Ac L a2 a3 a1 a0 k (i+1) Ah Aj Ak Ai Al)
 else (bif (decide (x.Index≥((Int.toNat ((((a0.Sites.getD (Int.toNat a2) default).Decl).Resources).length:Int)):Int))) then (Ac L a2 a3 a1 a0 k (i+1) Ah Aj Ak Ai Al)
 else (bif (x.What != 5) then (bif (decide (x.Value < 1)) then (Ac L a2 a3 a1 a0 k (i+1) Ah Aj Ak Ai Al)
 else (bif (decide (x.Value > 1000)) then (Ac L a2 a3 a1 a0 k (i+1) Ah Aj Ak Ai Al)
 else (bif (x.What == 4) then ((fun b40=>
 (bif b40 then (if (0≤x.Index) then (if (x.Index < (((Int.toNat ((((a0.Sites.getD (Int.toNat a2) default).Decl).Resources).length:Int)):Nat):Int)) then (if (0≤x.Index) then (if (x.Index < (((Int.toNat ((((a0.Sites.getD (Int.toNat a2) default).Decl).Resources).length:Int)):Nat):Int)) then (Ry (Ah.findIdx? fun b=>(x.Proc == b.u_proc && (x.Index == b.u_resource))) (fun i41=>(Ac L a2 a3 a1 a0 k (i+1) ((Ah.take i41).drop 0++(Ah.take Ah.length).drop (i41+1)) ((Aj.take i41).drop 0++(Aj.take Aj.length).drop (i41+1)) Ak (Ai.set (Int.toNat (x.Index)) (Bi ((Ai.getD (Int.toNat (x.Index)) default)+x.Value))) Al)) (Ac L a2 a3 a1 a0 k (i+1) Ah Aj Ak (Ai.set (Int.toNat (x.Index)) (Bi ((Ai.getD (Int.toNat (x.Index)) default)+x.Value))) Al)) else none) else none) else none) else none)
 else (Ry (Ah.findIdx? fun b=>(x.Proc == b.u_proc && (x.Index == b.u_resource))) (fun i42=>(Ac L a2 a3 a1 a0 k (i+1) ((Ah.take i42).drop 0++(Ah.take Ah.length).drop (i42+1)) ((Aj.take i42).drop 0++(Aj.take Aj.length).drop (i42+1)) Ak Ai Al)) (Ac L a2 a3 a1 a0 k (i+1) Ah Aj Ak Ai Al)))) (bif (decide (x.Index≥0)) then (decide (x.Index < ((Int.toNat ((((a0.Sites.getD (Int.toNat a2) default).Decl).Resources).length:Int)):Int)))
 else false))
 else (bif (x.What == 6) then ((fun b43=>
 (bif b43 then (if (0≤x.Index) then (if (x.Index < (((Int.toNat ((((a0.Sites.getD (Int.toNat a2) default).Decl).Resources).length:Int)):Nat):Int)) then (if (0≤x.Index) then (if (x.Index < (((Int.toNat ((((a0.Sites.getD (Int.toNat a2) default).Decl).Resources).length:Int)):Nat):Int)) then (Ac L a2 a3 a1 a0 k (i+1) Ah Aj Ak (Ai.set (Int.toNat (x.Index)) (Bi ((Ai.getD (Int.toNat (x.Index)) default)+(Bi (0 - x.Value))))) Al) else none) else none) else none) else none)
 else (Ac L a2 a3 a1 a0 k (i+1) Ah Aj Ak Ai Al))) (bif (decide (x.Index≥0)) then (decide (x.Index < ((Int.toNat ((((a0.Sites.getD (Int.toNat a2) default).Decl).Resources).length:Int)):Int)))
 else false))
 else (bif (x.What == 7) then ((fun b44=>
 (bif b44 then (if (0≤x.Index) then (if (x.Index < (((Int.toNat ((((a0.Sites.getD (Int.toNat a2) default).Decl).Resources).length:Int)):Nat):Int)) then (if (0≤x.Index) then (if (x.Index < (((Int.toNat ((((a0.Sites.getD (Int.toNat a2) default).Decl).Resources).length:Int)):Nat):Int)) then (Ry (Ah.findIdx? fun b=>(x.Proc == b.u_proc && (x.Index == b.u_resource))) (fun i45=>(Ac L a2 a3 a1 a0 k (i+1) Ah (Aj.set i45 true) Ak (Ai.set (Int.toNat (x.Index)) (Bi ((Ai.getD (Int.toNat (x.Index)) default)+(Bi (0 - x.Value))))) Al)) (Ac L a2 a3 a1 a0 k (i+1) (Ah++ [(⟨x.Proc,x.Index⟩:Aw)]) (Aj++ [true]) Ak (Ai.set (Int.toNat (x.Index)) (Bi ((Ai.getD (Int.toNat (x.Index)) default)+(Bi (0 - x.Value))))) Al)) else none) else none) else none) else none)
 else (Ry (Ah.findIdx? fun b=>(x.Proc == b.u_proc && (x.Index == b.u_resource))) (fun i46=>(Ac L a2 a3 a1 a0 k (i+1) Ah (Aj.set i46 true) Ak Ai Al)) (Ac L a2 a3 a1 a0 k (i+1) (Ah++ [(⟨x.Proc,x.Index⟩:Aw)]) (Aj++ [true]) Ak Ai Al)))) (bif (decide (x.Index≥0)) then (decide (x.Index < ((Int.toNat ((((a0.Sites.getD (Int.toNat a2) default).Decl).Resources).length:Int)):Int)))
 else false))
 else (bif (x.What == 5) then (Ry (Ah.findIdx? fun b=>(x.Proc == b.u_proc && (x.Index == b.u_resource))) (fun i47=>(Ac L a2 a3 a1 a0 k (i+1) Ah (Aj.set i47 true) Ak Ai Al)) (Ac L a2 a3 a1 a0 k (i+1) (Ah++ [(⟨x.Proc,x.Index⟩:Aw)]) (Aj++ [true]) Ak Ai Al))
 else (Ac L a2 a3 a1 a0 k (i+1) Ah Aj Ak Ai Al)))))))
 else (bif (x.What == 4) then ((fun b48=>
 (bif b48 then (if (0≤x.Index) then (if (x.Index < (((Int.toNat ((((a0.Sites.getD (Int.toNat a2) default).Decl).Resources).length:Int)):Nat):Int)) then (if (0≤x.Index) then (if (x.Index < (((Int.toNat ((((a0.Sites.getD (Int.toNat a2) default).Decl).Resources).length:Int)):Nat):Int)) then (Ry (Ah.findIdx? fun b=>(x.Proc == b.u_proc && (x.Index == b.u_resource))) (fun i49=>(Ac L a2 a3 a1 a0 k (i+1) ((Ah.take i49).drop 0++(Ah.take Ah.length).drop (i49+1)) ((Aj.take i49).drop 0++(Aj.take Aj.length).drop (i49+1)) Ak (Ai.set (Int.toNat (x.Index)) (Bi ((Ai.getD (Int.toNat (x.Index)) default)+x.Value))) Al)) (Ac L a2 a3 a1 a0 k (i+1) Ah Aj Ak (Ai.set (Int.toNat (x.Index)) (Bi ((Ai.getD (Int.toNat (x.Index)) default)+x.Value))) Al)) else none) else none) else none) else none)
 else (Ry (Ah.findIdx? fun b=>(x.Proc == b.u_proc && (x.Index == b.u_resource))) (fun i50=>(Ac L a2 a3 a1 a0 k (i+1) ((Ah.take i50).drop 0++(Ah.take Ah.length).drop (i50+1)) ((Aj.take i50).drop 0++(Aj.take Aj.length).drop (i50+1)) Ak Ai Al)) (Ac L a2 a3 a1 a0 k (i+1) Ah Aj Ak Ai Al)))) (bif (decide (x.Index≥0)) then (decide (x.Index < ((Int.toNat ((((a0.Sites.getD (Int.toNat a2) default).Decl).Resources).length:Int)):Int)))
 else false))
 else (bif (x.What == 6) then ((fun b51=>
 (bif b51 then (if (0≤x.Index) then (if (x.Index < (((Int.toNat ((((a0.Sites.getD (Int.toNat a2) default).Decl).Resources).length:Int)):Nat):Int)) then (if (0≤x.Index) then (if (x.Index < (((Int.toNat ((((a0.Sites.getD (Int.toNat a2) default).Decl).Resources).length:Int)):Nat):Int)) then (Ac L a2 a3 a1 a0 k (i+1) Ah Aj Ak (Ai.set (Int.toNat (x.Index)) (Bi ((Ai.getD (Int.toNat (x.Index)) default)+(Bi (0 - x.Value))))) Al) else none) else none) else none) else none)
 else (Ac L a2 a3 a1 a0 k (i+1) Ah Aj Ak Ai Al))) (bif (decide (x.Index≥0)) then (decide (x.Index < ((Int.toNat ((((a0.Sites.getD (Int.toNat a2) default).Decl).Resources).length:Int)):Int)))
 else false))
 else (bif (x.What == 7) then ((fun b52=>
 (bif b52 then (if (0≤x.Index) then (if (x.Index < (((Int.toNat ((((a0.Sites.getD (Int.toNat a2) default).Decl).Resources).length:Int)):Nat):Int)) then (if (0≤x.Index) then (if (x.Index < (((Int.toNat ((((a0.Sites.getD (Int.toNat a2) default).Decl).Resources).length:Int)):Nat):Int)) then (Ry (Ah.findIdx? fun b=>(x.Proc == b.u_proc && (x.Index == b.u_resource))) (fun i53=>(Ac L a2 a3 a1 a0 k (i+1) Ah (Aj.set i53 true) Ak (Ai.set (Int.toNat (x.Index)) (Bi ((Ai.getD (Int.toNat (x.Index)) default)+(Bi (0 - x.Value))))) Al)) (Ac L a2 a3 a1 a0 k (i+1) (Ah++ [(⟨x.Proc,x.Index⟩:Aw)]) (Aj++ [true]) Ak (Ai.set (Int.toNat (x.Index)) (Bi ((Ai.getD (Int.toNat (x.Index)) default)+(Bi (0 - x.Value))))) Al)) else none) else none) else none) else none)
 else (Ry (Ah.findIdx? fun b=>(x.Proc == b.u_proc && (x.Index == b.u_resource))) (fun i54=>(Ac L a2 a3 a1 a0 k (i+1) Ah (Aj.set i54 true) Ak Ai Al)) (Ac L a2 a3 a1 a0 k (i+1) (Ah++ [(⟨x.Proc,x.Index⟩:Aw)]) (Aj++ [true]) Ak Ai Al)))) (bif (decide (x.Index≥0)) then (decide (x.Index < ((Int.toNat ((((a0.Sites.getD (Int.toNat a2) default).Decl).Resources).length:Int)):Int)))
 else false))
 else (bif (x.What == 5) then (Ry (Ah.findIdx? fun b=>(x.Proc == b.u_proc && (x.Index == b.u_resource))) (fun i55=>(Ac L a2 a3 a1 a0 k (i+1) Ah (Aj.set i55 true) Ak Ai Al)) (Ac L a2 a3 a1 a0 k (i+1) (Ah++ [(⟨x.Proc,x.Index⟩:Aw)]) (Aj++ [true]) Ak Ai Al))
 else (Ac L a2 a3 a1 a0 k (i+1) Ah Aj Ak Ai Al))))))))
 else (Ac L a2 a3 a1 a0 k (i+1) Ah Aj Ak Ai Al))
 else (bif (x.What == 5) then (bif (decide (x.Index < 0)) then (Ac L a2 a3 a1 a0 k (i+1) Ah Aj Ak Ai Al)
 else (bif (decide (x.Index≥((Int.toNat ((((a0.Sites.getD (Int.toNat a2) default).Decl).Resources).length:Int)):Int))) then (Ac L a2 a3 a1 a0 k (i+1) Ah Aj Ak Ai Al)
 else (bif (x.What != 5) then (bif (decide (x.Value < 1)) then (Ac L a2 a3 a1 a0 k (i+1) Ah Aj Ak Ai Al)
 else (bif (decide (x.Value > 1000)) then (Ac L a2 a3 a1 a0 k (i+1) Ah Aj Ak Ai Al)
 else (bif (x.What == 4) then ((fun b56=>
 (bif b56 then (if (0≤x.Index) then (if (x.Index < (((Int.toNat ((((a0.Sites.getD (Int.toNat a2) default).Decl).Resources).length:Int)):Nat):Int)) then (if (0≤x.Index) then (if (x.Index < (((Int.toNat ((((a0.Sites.getD (Int.toNat a2) default).Decl).Resources).length:Int)):Nat):Int)) then (Ry (Ah.findIdx? fun b=>(x.Proc == b.u_proc && (x.Index == b.u_resource))) (fun i57=>(Ac L a2 a3 a1 a0 k (i+1) ((Ah.take i57).drop 0++(Ah.take Ah.length).drop (i57+1)) ((Aj.take i57).drop 0++(Aj.take Aj.length).drop (i57+1)) Ak (Ai.set (Int.toNat (x.Index)) (Bi ((Ai.getD (Int.toNat (x.Index)) default)+x.Value))) Al)) (Ac L a2 a3 a1 a0 k (i+1) Ah Aj Ak (Ai.set (Int.toNat (x.Index)) (Bi ((Ai.getD (Int.toNat (x.Index)) default)+x.Value))) Al)) else none) else none) else none) else none)
 else (Ry (Ah.findIdx? fun b=>(x.Proc == b.u_proc && (x.Index == b.u_resource))) (fun i58=>(Ac L a2 a3 a1 a0 k (i+1) ((Ah.take i58).drop 0++(Ah.take Ah.length).drop (i58+1)) ((Aj.take i58).drop 0++(Aj.take Aj.length).drop (i58+1)) Ak Ai Al)) (Ac L a2 a3 a1 a0 k (i+1) Ah Aj Ak Ai Al)))) (bif (decide (x.Index≥0)) then (decide (x.Index < ((Int.toNat ((((a0.Sites.getD (Int.toNat a2) default).Decl).Resources).length:Int)):Int)))
 else false))
 else (bif (x.What == 6) then ((fun b59=>
 (bif b59 then (if (0≤x.Index) then (if (x.Index < (((Int.toNat ((((a0.Sites.getD (Int.toNat a2) default).Decl).Resources).length:Int)):Nat):Int)) then (if (0≤x.Index) then (if (x.Index < (((Int.toNat ((((a0.Sites.getD (Int.toNat a2) default).Decl).Resources).length:Int)):Nat):Int)) then (Ac L a2 a3 a1 a0 k (i+1) Ah Aj Ak (Ai.set (Int.toNat (x.Index)) (Bi ((Ai.getD (Int.toNat (x.Index)) default)+(Bi (0 - x.Value))))) Al) else none) else none) else none) else none)
 else (Ac L a2 a3 a1 a0 k (i+1) Ah Aj Ak Ai Al))) (bif (decide (x.Index≥0)) then (decide (x.Index < ((Int.toNat ((((a0.Sites.getD (Int.toNat a2) default).Decl).Resources).length:Int)):Int)))
 else false))
 else (bif (x.What == 7) then ((fun b60=>
 (bif b60 then (if (0≤x.Index) then (if (x.Index < (((Int.toNat ((((a0.Sites.getD (Int.toNat a2) default).Decl).Resources).length:Int)):Nat):Int)) then (if (0≤x.Index) then (if (x.Index < (((Int.toNat ((((a0.Sites.getD (Int.toNat a2) default).Decl).Resources).length:Int)):Nat):Int)) then (Ry (Ah.findIdx? fun b=>(x.Proc == b.u_proc && (x.Index == b.u_resource))) (fun i61=>(Ac L a2 a3 a1 a0 k (i+1) Ah (Aj.set i61 true) Ak (Ai.set (Int.toNat (x.Index)) (Bi ((Ai.getD (Int.toNat (x.Index)) default)+(Bi (0 - x.Value))))) Al)) (Ac L a2 a3 a1 a0 k (i+1) (Ah++ [(⟨x.Proc,x.Index⟩:Aw)]) (Aj++ [true]) Ak (Ai.set (Int.toNat (x.Index)) (Bi ((Ai.getD (Int.toNat (x.Index)) default)+(Bi (0 - x.Value))))) Al)) else none) else none) else none) else none)
 else (Ry (Ah.findIdx? fun b=>(x.Proc == b.u_proc && (x.Index == b.u_resource))) (fun i62=>(Ac L a2 a3 a1 a0 k (i+1) Ah (Aj.set i62 true) Ak Ai Al)) (Ac L a2 a3 a1 a0 k (i+1) (Ah++ [(⟨x.Proc,x.Index⟩:Aw)]) (Aj++ [true]) Ak Ai Al)))) (bif (decide (x.Index≥0)) then (decide (x.Index < ((Int.toNat ((((a0.Sites.getD (Int.toNat a2) default).Decl).Resources).length:Int)):Int)))
 else false))
 else (bif (x.What == 5) then (Ry (Ah.findIdx? fun b=>(x.Proc == b.u_proc && (x.Index == b.u_resource))) (fun i63=>(Ac L a2 a3 a1 a0 k (i+1) Ah (Aj.set i63 true) Ak Ai Al)) (Ac L a2 a3 a1 a0 k (i+1) (Ah++ [(⟨x.Proc,x.Index⟩:Aw)]) (Aj++ [true]) Ak Ai Al))
 else (Ac L a2 a3 a1 a0 k (i+1) Ah Aj Ak Ai Al)))))))
 else (bif (x.What == 4) then ((fun b64=>
 (bif b64 then (if (0≤x.Index) then (if (x.Index < (((Int.toNat ((((a0.Sites.getD (Int.toNat a2) default).Decl).Resources).length:Int)):Nat):Int)) then (if (0≤x.Index) then (if (x.Index < (((Int.toNat ((((a0.Sites.getD (Int.toNat a2) default).Decl).Resources).length:Int)):Nat):Int)) then (Ry (Ah.findIdx? fun b=>(x.Proc == b.u_proc && (x.Index == b.u_resource))) (fun i65=>(Ac L a2 a3 a1 a0 k (i+1) ((Ah.take i65).drop 0++(Ah.take Ah.length).drop (i65+1)) ((Aj.take i65).drop 0++(Aj.take Aj.length).drop (i65+1)) Ak (Ai.set (Int.toNat (x.Index)) (Bi ((Ai.getD (Int.toNat (x.Index)) default)+x.Value))) Al)) (Ac L a2 a3 a1 a0 k (i+1) Ah Aj Ak (Ai.set (Int.toNat (x.Index)) (Bi ((Ai.getD (Int.toNat (x.Index)) default)+x.Value))) Al)) else none) else none) else none) else none)
 else (Ry (Ah.findIdx? fun b=>(x.Proc == b.u_proc && (x.Index == b.u_resource))) (fun i66=>(Ac L a2 a3 a1 a0 k (i+1) ((Ah.take i66).drop 0++(Ah.take Ah.length).drop (i66+1)) ((Aj.take i66).drop 0++(Aj.take Aj.length).drop (i66+1)) Ak Ai Al)) (Ac L a2 a3 a1 a0 k (i+1) Ah Aj Ak Ai Al)))) (bif (decide (x.Index≥0)) then (decide (x.Index < ((Int.toNat ((((a0.Sites.getD (Int.toNat a2) default).Decl).Resources).length:Int)):Int)))
 else false))
 else (bif (x.What == 6) then ((fun b67=>
 (bif b67 then (if (0≤x.Index) then (if (x.Index < (((Int.toNat ((((a0.Sites.getD (Int.toNat a2) default).Decl).Resources).length:Int)):Nat):Int)) then (if (0≤x.Index) then (if (x.Index < (((Int.toNat ((((a0.Sites.getD (Int.toNat a2) default).Decl).Resources).length:Int)):Nat):Int)) then (Ac L a2 a3 a1 a0 k (i+1) Ah Aj Ak (Ai.set (Int.toNat (x.Index)) (Bi ((Ai.getD (Int.toNat (x.Index)) default)+(Bi (0 - x.Value))))) Al) else none) else none) else none) else none)
 else (Ac L a2 a3 a1 a0 k (i+1) Ah Aj Ak Ai Al))) (bif (decide (x.Index≥0)) then (decide (x.Index < ((Int.toNat ((((a0.Sites.getD (Int.toNat a2) default).Decl).Resources).length:Int)):Int)))
 else false))
 else (bif (x.What == 7) then ((fun b68=>
 (bif b68 then (if (0≤x.Index) then (if (x.Index < (((Int.toNat ((((a0.Sites.getD (Int.toNat a2) default).Decl).Resources).length:Int)):Nat):Int)) then (if (0≤x.Index) then (if (x.Index < (((Int.toNat ((((a0.Sites.getD (Int.toNat a2) default).Decl).Resources).length:Int)):Nat):Int)) then (Ry (Ah.findIdx? fun b=>(x.Proc == b.u_proc && (x.Index == b.u_resource))) (fun i69=>(Ac L a2 a3 a1 a0 k (i+1) Ah (Aj.set i69 true) Ak (Ai.set (Int.toNat (x.Index)) (Bi ((Ai.getD (Int.toNat (x.Index)) default)+(Bi (0 - x.Value))))) Al)) (Ac L a2 a3 a1 a0 k (i+1) (Ah++ [(⟨x.Proc,x.Index⟩:Aw)]) (Aj++ [true]) Ak (Ai.set (Int.toNat (x.Index)) (Bi ((Ai.getD (Int.toNat (x.Index)) default)+(Bi (0 - x.Value))))) Al)) else none) else none) else none) else none)
 else (Ry (Ah.findIdx? fun b=>(x.Proc == b.u_proc && (x.Index == b.u_resource))) (fun i70=>(Ac L a2 a3 a1 a0 k (i+1) Ah (Aj.set i70 true) Ak Ai Al)) (Ac L a2 a3 a1 a0 k (i+1) (Ah++ [(⟨x.Proc,x.Index⟩:Aw)]) (Aj++ [true]) Ak Ai Al)))) (bif (decide (x.Index≥0)) then (decide (x.Index < ((Int.toNat ((((a0.Sites.getD (Int.toNat a2) default).Decl).Resources).length:Int)):Int)))
 else false))
 else (bif (x.What == 5) then (Ry (Ah.findIdx? fun b=>(x.Proc == b.u_proc && (x.Index == b.u_resource))) (fun i71=>(Ac L a2 a3 a1 a0 k (i+1) Ah (Aj.set i71 true) Ak Ai Al)) (Ac L a2 a3 a1 a0 k (i+1) (Ah++ [(⟨x.Proc,x.Index⟩:Aw)]) (Aj++ [true]) Ak Ai Al))
 else (Ac L a2 a3 a1 a0 k (i+1) Ah Aj Ak Ai Al))))))))
 else (Ac L a2 a3 a1 a0 k (i+1) Ah Aj Ak Ai Al)))))))))
 else (Ac L a2 a3 a1 a0 k (i+1) Ah Aj Ak Ai Al))) (bif (x.Site == a2) then (decide (x.Time≤a3))
 else false))
theorem Acr(L:Nat)(a2:Int)(a3:Int)(a1:List Bo)(a0:Ad)(n:Nat)(hl:a1.length≤maxLen)(hn:a1.length < n):∀(Ah:List Aw) (Aj:List Bool) (Ak:List Int) (Ai:List Int) (Al:List Int),Dn L a2 a3 a1 a0 n 0 Ah Aj Ak Ai Al=Ac L a2 a3 a1 a0 a1 0 Ah Aj Ak Ai Al:=lQ (fun k i n=>∀(Ah:List Aw) (Aj:List Bool) (Ak:List Int) (Ai:List Int) (Al:List Int),Dn L a2 a3 a1 a0 n (i:Int) Ah Aj Ak Ai Al=Ac L a2 a3 a1 a0 k i Ah Aj Ak Ai Al) hl hn (fun n i h Ah Aj Ak Ai Al=>by simp only [Dn,P5,Lx,H7,H8,Ac,Kh h,aN,aB,aC]) (fun n i x k h hx ih Ah Aj Ak Ai Al=>by simp only [Dn,P5,Lx,H7,H8,Ac,J3 h,m8 h,hx,B6 h hl,ih,aN,aB,aC])
def Gt(L:Nat)(a0:List Int)(a1:List Int):List Int→Nat→Bool→Option (Nat×Bool×Int)
 | [],i,C8=>(some (1,(C8,(i:Int))))
 |x::k,i,C8=>(if ((i:Int) < (a1.length:Int)) then (bif (x != (a1.getD (Int.toNat (i:Int)) default)) then (some (0,(false,(i:Int))))
 else (Gt L a0 a1 k (i+1) C8)) else none)
theorem Afo(L:Nat)(a0:List Int)(a1:List Int)(n:Nat)(hl:a0.length≤maxLen)(hn:a0.length < n):∀(C8:Bool),Gr L a0 a1 n C8 0=Gt L a0 a1 a0 0 C8:=lQ (fun k i n=>∀(C8:Bool),Gr L a0 a1 n C8 (i:Int)=Gt L a0 a1 k i C8) hl hn (fun n i h C8=>by simp only [Gr,O5,Gt,Kh h,aN,aB,aC]) (fun n i x k h hx ih C8=>by simp only [Gr,O5,Gt,J3 h,m8 h,hx,B6 h hl,ih,aN,aB,aC])
end Go.Proofs.YthjhkpgonleelaaGreatDoor.Ev
