import Derived.Test.YtofcpkmnhmnfcaaGreatRG1
import Derived.Test.YtofcpkmnhmnfcaaGreatRPa
import Derived.Test.YtofcpkmnhmnfcaaGreatRG2
import Derived.Test.YtofcpkmnhmnfcaaGreatRG3
import Derived.Test.YtofcpkmnhmnfcaaGreatRG4
import Derived.Test.YtofcpkmnhmnfcaaGreatRG5
import Derived.Test.YtofcpkmnhmnfcaaGreatRG6
import Derived.Test.YtofcpkmnhmnfcaaGreatRG7
import Derived.Test.YtofcpkmnhmnfcaaGreatRG8
import Derived.Test.YtofcpkmnhmnfcaaGreatRG9
import Derived.Test.YtofcpkmnhmnfcaaGreatRG10
import Derived.Test.YtofcpkmnhmnfcaaGreatRG11
import Derived.Test.YtofcpkmnhmnfcaaGreatRG12
import Derived.Test.YtofcpkmnhmnfcaaGreatRG13
import Derived.Test.YtofcpkmnhmnfcaaGreatRG14
import Derived.Test.YtofcpkmnhmnfcaaGreatRG15
import Derived.Test.YtofcpkmnhmnfcaaGreatRG16
import Derived.Test.YtofcpkmnhmnfcaaGreatRG17
namespace Go.Proofs.YtofcpkmnhmnfcaaGreatR.Ev
open Go An
set_option maxRecDepth 100000
set_option maxHeartbeats 4000000
set_option linter.unusedVariables false
set_option linter.unusedSimpArgs false
set_option linter.unnecessarySimpa false
theorem aC:(∀i:Nat,(0≤(i:Int))=True)∧(∀i:Nat,Int.toNat (i:Int)=i)∧(∀ {α :Type} (a b: α),cond true a b=a)∧(∀ {α :Type} (a b: α),cond false a b=b)∧(∀ {α :Type} (a b: α),(if True then a else b)=a)∧(∀h:Decidable True,@decide True h=true)∧(∀x:Ab,Ab.mk x.Op x.Name x.N x.Kids=x)∧(∀x:Ab,Ab.cp x=x)∧(∀x:Ad,Ad.mk x.Op x.Name x.Of x.E x.F x.Args x.Dist x.Flag x.Body x.Else=x)∧(∀x:Ad,Ad.cp x=x):=⟨nn,toN,fun _ _=>rfl,fun _ _=>rfl,fun _ _=>if_true ..,decide_true,Ab.eta,Ab.cp_eq,Ad.eta,Ad.cp_eq⟩
def N4(Iy:Ab→Option Int)(L:Nat)(a0:Ab):List Ab→Nat→Int→Option (Nat×Int×Int)
 | [],i,Aj=>(some (0,(Aj,(i:Int))))
 |x::k,i,Aj=>(Option.bind (Iy x) fun r1=>
 (N4 Iy L a0 k (i+1) (B6 (Aj+r1))))
theorem Azi(Iy:Ab→Option Int)(L:Nat)(a0:Ab)(n:Nat)(hl:a0.Kids.length≤maxLen)(hn:a0.Kids.length < n):∀(Aj:Int),N2 Iy L a0 n Aj 0=N4 Iy L a0 a0.Kids 0 Aj:=lQ (fun k i n=>∀(Aj:Int),N2 Iy L a0 n Aj (i:Int)=N4 Iy L a0 k i Aj) hl hn (fun n i h Aj=>by simp only [N2,f5,N4,F0 h,aN,aB,aC]) (fun n i x k h hx ih Aj=>by simp only [N2,f5,N4,F1 h,Qu h,hx,Bd h hl,ih,aN,aB,aC])
def Qp(C1:(List Ad)→Option Int)(L:Nat)(a0:List Ad)(Ai:Int):List Ab→Nat→Int→Option (Nat×Int×Int)
 | [],i,It=>(some (0,(It,(i:Int))))
 |x::k,i,It=>(Option.bind (F4 L x) fun r5=>
 (Qp C1 L a0 Ai k (i+1) (B6 (It+r5))))
theorem A29(C1:(List Ad)→Option Int)(L:Nat)(a0:List Ad)(Ai:Int)(n:Nat)(hl:((a0.getD (Int.toNat Ai) default).Args).length≤maxLen)(hn:((a0.getD (Int.toNat Ai) default).Args).length < n):∀(It:Int),Ni C1 L a0 Ai n It 0=Qp C1 L a0 Ai ((a0.getD (Int.toNat Ai) default).Args) 0 It:=lQ (fun k i n=>∀(It:Int),Ni C1 L a0 Ai n It (i:Int)=Qp C1 L a0 Ai k i It) hl hn (fun n i h It=>by simp only [Ni,Abl,Qp,F0 h,aN,aB,aC]) (fun n i x k h hx ih It=>by simp only [Ni,Abl,Qp,F1 h,Qu h,hx,Bd h hl,ih,aN,aB,aC])
def Qo(C1:(List Ad)→Option Int)(L:Nat)(a0:List Ad):List Ad→Nat→Int→Option (Nat×Int×Int)
 | [],i,Ak=>(some (0,(Ak,(i:Int))))
 |x::k,i,Ak=>(Option.bind (F4 L (x.E)) fun r1=>
 (Option.bind (F4 L (x.F)) fun r2=>
 (Option.bind (C1 (x.Body)) fun r3=>
 (Option.bind (C1 (x.Else)) fun r4=>
 (Option.bind (Ni C1 L a0 (i:Int) L (B6 ((B6 ((B6 ((B6 ((B6 ((B6 ((B6 (Ak+1))+r1))+r2))+(((x.Dist).Values).length:Int)))+(((x.Dist).Weights).length:Int)))+r3))+r4)) 0) fun o6=>
 (Aw9 o6.1 [(Qo C1 L a0 k (i+1) o6.2.1)]))))))
theorem A28(C1:(List Ad)→Option Int)(L:Nat)(a0:List Ad)(n:Nat)(hl:a0.length≤maxLen)(hn:a0.length < n):∀(Ak:Int),Nh C1 L a0 n Ak 0=Qo C1 L a0 a0 0 Ak:=lQ (fun k i n=>∀(Ak:Int),Nh C1 L a0 n Ak (i:Int)=Qo C1 L a0 k i Ak) hl hn (fun n i h Ak=>by simp only [Nh,Ahw,Abw,Xz,Qo,F0 h,aN,aB,aC]) (fun n i x k h hx ih Ak=>by simp only [Nh,Ahw,Abw,Xz,Qo,F1 h,Qu h,hx,Bd h hl,ih,aN,aB,aC])
def Qm(L:Nat)(Al:Int)(Ak:Int)(a0:Ac):List Ap→Nat→Int→Option (Nat×Int×Int)
 | [],i,Bv=>(some (0,(Bv,(i:Int))))
 |x::k,i,Bv=>(Option.bind (Nt L (x.Body)) fun r2=>
 (Qm L Al Ak a0 k (i+1) (B6 (Bv+(B6 ((B6 ((B6 (1+((x.Params).length:Int)))+((x.Locals).length:Int)))+r2))))))
theorem A26(L:Nat)(Al:Int)(Ak:Int)(a0:Ac)(n:Nat)(hl:((a0.Sites.getD (Int.toNat Ak) default).Routines).length≤maxLen)(hn:((a0.Sites.getD (Int.toNat Ak) default).Routines).length < n):∀(Bv:Int),Ng L Al Ak a0 n Bv 0=Qm L Al Ak a0 ((a0.Sites.getD (Int.toNat Ak) default).Routines) 0 Bv:=lQ (fun k i n=>∀(Bv:Int),Ng L Al Ak a0 n Bv (i:Int)=Qm L Al Ak a0 k i Bv) hl hn (fun n i h Bv=>by simp only [Ng,Abj,Qm,F0 h,aN,aB,aC]) (fun n i x k h hx ih Bv=>by simp only [Ng,Abj,Qm,F1 h,Qu h,hx,Bd h hl,ih,aN,aB,aC])
def Ql(L:Nat)(a0:Ac):List Aa→Nat→Int→Int→Option (Nat×Int×Int×Int)
 | [],i,Al,Aj=>(some (1,(Al,Aj,(i:Int))))
 |x::k,i,Al,Aj=>(Option.bind (Abz L x) fun r1=>
 (bif (!r1) then (some (0,(1048576,Aj,(i:Int))))
 else (Option.bind (Ng L Al (i:Int) a0 L (B6 (Aj+(B6 ((B6 ((B6 (1+((x.Vars).length:Int)))+((x.Starts).length:Int)))+((x.Laws).length:Int))))) 0) fun o3=>
 (Aw9 o3.1 [(Ql L a0 k (i+1) Al o3.2.1)]))))
theorem A25(L:Nat)(a0:Ac)(n:Nat)(hl:a0.Sites.length≤maxLen)(hn:a0.Sites.length < n):∀(Al:Int) (Aj:Int),Nf L a0 n Al Aj 0=Ql L a0 a0.Sites 0 Al Aj:=lQ (fun k i n=>∀(Al:Int) (Aj:Int),Nf L a0 n Al Aj (i:Int)=Ql L a0 k i Al Aj) hl hn (fun n i h Al Aj=>by simp only [Nf,Ahv,Abu,Xw,Ql,F0 h,aN,aB,aC]) (fun n i x k h hx ih Al Aj=>by simp only [Nf,Ahv,Abu,Xw,Ql,F1 h,Qu h,hx,Bd h hl,ih,aN,aB,aC])
def Du(L:Nat)(a0:Ah):List F7→Nat→Int→Option (Nat×Int×Int)
 | [],i,Al=>(some (1,(Al,(i:Int))))
 |x::k,i,Al=>(Option.bind (Be L (x.At) 0 (B6 (a0.Cycle - 1))) fun r2=>
 (bif (!r2) then (bif (!r2) then (some (0,(2,(i:Int))))
 else (bif (decide ((i:Int) > 0)) then (if (0≤(B6 ((i:Int) - 1))) then (if ((B6 ((i:Int) - 1)) < (a0.Shift.length:Int)) then (bif (decide (x.At≤(a0.Shift.getD (Int.toNat (B6 ((i:Int) - 1))) default).At)) then (some (0,(12,(i:Int))))
 else (Du L a0 k (i+1) Al)) else none) else none)
 else (Du L a0 k (i+1) Al)))
 else (Option.bind (Be L (x.Units) 0 1000) fun r3=>
 (bif (!r3) then (some (0,(2,(i:Int))))
 else (bif (decide ((i:Int) > 0)) then (if (0≤(B6 ((i:Int) - 1))) then (if ((B6 ((i:Int) - 1)) < (a0.Shift.length:Int)) then (bif (decide (x.At≤(a0.Shift.getD (Int.toNat (B6 ((i:Int) - 1))) default).At)) then (some (0,(12,(i:Int))))
 else (Du L a0 k (i+1) Al)) else none) else none)
 else (Du L a0 k (i+1) Al))))))
theorem An2(L:Nat)(a0:Ah)(n:Nat)(hl:a0.Shift.length≤maxLen)(hn:a0.Shift.length < n):∀(Al:Int),Hc L a0 n Al 0=Du L a0 a0.Shift 0 Al:=lQ (fun k i n=>∀(Al:Int),Hc L a0 n Al (i:Int)=Du L a0 k i Al) hl hn (fun n i h Al=>by simp only [Hc,Qz,Du,F0 h,aN,aB,aC]) (fun n i x k h hx ih Al=>by simp only [Hc,Qz,Du,F1 h,Qu h,hx,Bd h hl,ih,aN,aB,aC])
def Gc(L:Nat)(a0:List Int)(a1:List Int):List Int→Nat→Bool→Option (Nat×Bool×Int)
 | [],i,Ak=>(some (1,(Ak,(i:Int))))
 |x::k,i,Ak=>(if ((i:Int) < (a1.length:Int)) then (bif (x != (a1.getD (Int.toNat (i:Int)) default)) then (some (0,(false,(i:Int))))
 else (Gc L a0 a1 k (i+1) Ak)) else none)
theorem Ak2(L:Nat)(a0:List Int)(a1:List Int)(n:Nat)(hl:a0.length≤maxLen)(hn:a0.length < n):∀(Ak:Bool),F9 L a0 a1 n Ak 0=Gc L a0 a1 a0 0 Ak:=lQ (fun k i n=>∀(Ak:Bool),F9 L a0 a1 n Ak (i:Int)=Gc L a0 a1 k i Ak) hl hn (fun n i h Ak=>by simp only [F9,Oi,Gc,F0 h,aN,aB,aC]) (fun n i x k h hx ih Ak=>by simp only [F9,Oi,Gc,F1 h,Qu h,hx,Bd h hl,ih,aN,aB,aC])
def Ea(L:Nat)(a0:List ByteArray)(a1:ByteArray):List ByteArray→Nat→Int→Option (Nat×Int×Int)
 | [],i,Ak=>(some (1,(Ak,(i:Int))))
 |x::k,i,Ak=>(bif (a1.toList == x.toList) then (some (0,((i:Int),(i:Int))))
 else (Ea L a0 a1 k (i+1) Ak))
theorem Ago(L:Nat)(a0:List ByteArray)(a1:ByteArray)(n:Nat)(hl:a0.length≤maxLen)(hn:a0.length < n):∀(Ak:Int),D6 L a0 a1 n Ak 0=Ea L a0 a1 a0 0 Ak:=lQ (fun k i n=>∀(Ak:Int),D6 L a0 a1 n Ak (i:Int)=Ea L a0 a1 k i Ak) hl hn (fun n i h Ak=>by simp only [D6,K8,Ea,F0 h,aN,aB,aC]) (fun n i x k h hx ih Ak=>by simp only [D6,K8,Ea,F1 h,Qu h,hx,Bd h hl,ih,aN,aB,aC])
def Ky(L:Nat)(p1_0:List Int)(p1_1:Int)(p1_2:Int):List Int→Nat→Int→Option (Nat×Int×Int)
 | [],i,Aj=>(some (1,(Aj,(i:Int))))
 |x::k,i,Aj=>((fun b1=>
 (bif b1 then (some (0,((i:Int),(i:Int))))
 else (Ky L p1_0 p1_1 p1_2 k (i+1) Aj))) (bif (decide (x < p1_1)) then true
 else (decide (x > p1_2))))
theorem Aud(L:Nat)(p1_0:List Int)(p1_1:Int)(p1_2:Int)(n:Nat)(hl:p1_0.length≤maxLen)(hn:p1_0.length < n):∀(Aj:Int),Km L p1_0 p1_1 p1_2 n Aj 0=Ky L p1_0 p1_1 p1_2 p1_0 0 Aj:=lQ (fun k i n=>∀(Aj:Int),Km L p1_0 p1_1 p1_2 n Aj (i:Int)=Ky L p1_0 p1_1 p1_2 k i Aj) hl hn (fun n i h Aj=>by simp only [Km,V3,Ky,F0 h,aN,aB,aC]) (fun n i x k h hx ih Aj=>by simp only [Km,V3,Ky,F1 h,Qu h,hx,Bd h hl,ih,aN,aB,aC])
def D1(L:Nat)(a0:List (List Ao)):List ((List Ao))→Nat→Int→Option (Nat×Int×Int)
 | [],i,Ak=>(some (0,(Ak,(i:Int))))
 |x::k,i,Ak=>(bif (decide ((B6 (Ak+(x.length:Int))) < 0)) then none
 else (D1 L a0 k (i+1) (B6 (Ak+(x.length:Int)))))
theorem Acg(L:Nat)(a0:List (List Ao))(n:Nat)(hl:a0.length≤maxLen)(hn:a0.length < n):∀(Ak:Int),Da L a0 n Ak 0=D1 L a0 a0 0 Ak:=lQ (fun k i n=>∀(Ak:Int),Da L a0 n Ak (i:Int)=D1 L a0 k i Ak) hl hn (fun n i h Ak=>by simp only [Da,Hx,D1,F0 h,aN,aB,aC]) (fun n i x k h hx ih Ak=>by simp only [Da,Hx,D1,F1 h,Qu h,hx,Bd h hl,ih,aN,aB,aC])
def D2(L:Nat)(a0:List (List Ao)):List ((List Ao))→Nat→List Ao→Option (Nat×List Ao×Int)
 | [],i,Bv=>(some (0,(Bv,(i:Int))))
 |x::k,i,Bv=>(if ((Bv.length+x.length)*24≤140737488355328) then (if (Bv.length+x.length≤maxLen) then (D2 L a0 k (i+1) (Bv++x)) else none) else none)
theorem Ach(L:Nat)(a0:List (List Ao))(n:Nat)(hl:a0.length≤maxLen)(hn:a0.length < n):∀(Bv:List Ao),Db L a0 n Bv 0=D2 L a0 a0 0 Bv:=lQ (fun k i n=>∀(Bv:List Ao),Db L a0 n Bv (i:Int)=D2 L a0 k i Bv) hl hn (fun n i h Bv=>by simp only [Db,Hy,D2,F0 h,aN,aB,aC]) (fun n i x k h hx ih Bv=>by simp only [Db,Hy,D2,F1 h,Qu h,hx,Bd h hl,ih,aN,aB,aC])
def J1(Ef:(List Ad)→Option Int)(L:Nat)(a0:List Ad):List Ad→Nat→Int→Option (Nat×Int×Int)
 | [],i,Aj=>(some (0,(Aj,(i:Int))))
 |x::k,i,Aj=>(Option.bind (Ef (x.Body)) fun r1=>
 (Option.bind (Ef (x.Else)) fun r2=>
 (J1 Ef L a0 k (i+1) (B6 (Aj+(B6 (r1+r2)))))))
theorem Awk(Ef:(List Ad)→Option Int)(L:Nat)(a0:List Ad)(n:Nat)(hl:a0.length≤maxLen)(hn:a0.length < n):∀(Aj:Int),L8 Ef L a0 n Aj 0=J1 Ef L a0 a0 0 Aj:=lQ (fun k i n=>∀(Aj:Int),L8 Ef L a0 n Aj (i:Int)=J1 Ef L a0 k i Aj) hl hn (fun n i h Aj=>by simp only [L8,Yn,J1,F0 h,aN,aB,aC]) (fun n i x k h hx ih Aj=>by simp only [L8,Yn,J1,F1 h,Qu h,hx,Bd h hl,ih,aN,aB,aC])
def J2(Eg:(List Ad)→Option Int)(L:Nat)(a0:List Ad):List Ad→Nat→Int→Option (Nat×Int×Int)
 | [],i,Aj=>(some (0,(Aj,(i:Int))))
 |x::k,i,Aj=>(Option.bind (Eg (x.Body)) fun r1=>
 (Option.bind (Eg (x.Else)) fun r2=>
 (J2 Eg L a0 k (i+1) (if (B6 (1+r2)) > (if (B6 (1+r1)) > Aj then (B6 (1+r1)) else Aj) then (B6 (1+r2)) else (if (B6 (1+r1)) > Aj then (B6 (1+r1)) else Aj)))))
theorem Awl(Eg:(List Ad)→Option Int)(L:Nat)(a0:List Ad)(n:Nat)(hl:a0.length≤maxLen)(hn:a0.length < n):∀(Aj:Int),L9 Eg L a0 n Aj 0=J2 Eg L a0 a0 0 Aj:=lQ (fun k i n=>∀(Aj:Int),L9 Eg L a0 n Aj (i:Int)=J2 Eg L a0 k i Aj) hl hn (fun n i h Aj=>by simp only [L9,Yp,J2,F0 h,aN,aB,aC]) (fun n i x k h hx ih Aj=>by simp only [L9,Yp,J2,F1 h,Qu h,hx,Bd h hl,ih,aN,aB,aC])
def Ro(Ee:Ab→Ab→Option Bool)(L:Nat)(a0:Ab)(a1:Ab):List Ab→Nat→Bool→Option (Nat×Bool×Int)
 | [],i,Al=>(some (1,(Al,(i:Int))))
 |x::k,i,Al=>(if ((i:Int) < (a1.Kids.length:Int)) then (Option.bind (Ee x (a1.Kids.getD (Int.toNat (i:Int)) default)) fun r4=>
 (bif (!r4) then (some (0,(false,(i:Int))))
 else (Ro Ee L a0 a1 k (i+1) Al))) else none)
theorem Azj(Ee:Ab→Ab→Option Bool)(L:Nat)(a0:Ab)(a1:Ab)(n:Nat)(hl:a0.Kids.length≤maxLen)(hn:a0.Kids.length < n):∀(Al:Bool),N3 Ee L a0 a1 n Al 0=Ro Ee L a0 a1 a0.Kids 0 Al:=lQ (fun k i n=>∀(Al:Bool),N3 Ee L a0 a1 n Al (i:Int)=Ro Ee L a0 a1 k i Al) hl hn (fun n i h Al=>by simp only [N3,f7,Ro,F0 h,aN,aB,aC]) (fun n i x k h hx ih Al=>by simp only [N3,f7,Ro,F1 h,Qu h,hx,Bd h hl,ih,aN,aB,aC])
def Mh(Ey:Ab→Option Int)(L:Nat)(a0:Ab):List Ab→Nat→Int→Option (Nat×Int×Int)
 | [],i,Aj=>(some (0,(Aj,(i:Int))))
 |x::k,i,Aj=>(Option.bind (Ey x) fun r1=>
 (Mh Ey L a0 k (i+1) (B6 (Aj+r1))))
theorem Av7(Ey:Ab→Option Int)(L:Nat)(a0:Ab)(n:Nat)(hl:a0.Kids.length≤maxLen)(hn:a0.Kids.length < n):∀(Aj:Int),L2 Ey L a0 n Aj 0=Mh Ey L a0 a0.Kids 0 Aj:=lQ (fun k i n=>∀(Aj:Int),L2 Ey L a0 n Aj (i:Int)=Mh Ey L a0 k i Aj) hl hn (fun n i h Aj=>by simp only [L2,Yh,Mh,F0 h,aN,aB,aC]) (fun n i x k h hx ih Aj=>by simp only [L2,Yh,Mh,F1 h,Qu h,hx,Bd h hl,ih,aN,aB,aC])
def Mg(Ez:Ab→Option Int)(L:Nat)(a0:Ab):List Ab→Nat→Int→Option (Nat×Int×Int)
 | [],i,Aj=>(some (0,(Aj,(i:Int))))
 |x::k,i,Aj=>(Option.bind (Ez x) fun r1=>
 (Mg Ez L a0 k (i+1) (if r1 > Aj then r1 else Aj)))
theorem Av6(Ez:Ab→Option Int)(L:Nat)(a0:Ab)(n:Nat)(hl:a0.Kids.length≤maxLen)(hn:a0.Kids.length < n):∀(Aj:Int),L1 Ez L a0 n Aj 0=Mg Ez L a0 a0.Kids 0 Aj:=lQ (fun k i n=>∀(Aj:Int),L1 Ez L a0 n Aj (i:Int)=Mg Ez L a0 k i Aj) hl hn (fun n i h Aj=>by simp only [L1,Yg,Mg,F0 h,aN,aB,aC]) (fun n i x k h hx ih Aj=>by simp only [L1,Yg,Mg,F1 h,Qu h,hx,Bd h hl,ih,aN,aB,aC])
def E7(Ed:Bi→Ab→Option Int)(L:Nat)(a1:Ab)(a0:Bi):List Ab→Nat→Int→Option (Nat×Int×Int)
 | [],i,Al=>(some (1,(Al,(i:Int))))
 |x::k,i,Al=>(Option.bind (Ed (⟨a0.u_code⟩:Bi) x) fun r2=>
 (bif (r2 != 0) then (some (0,(r2,(i:Int))))
 else (E7 Ed L a1 a0 k (i+1) Al)))
theorem Al4(Ed:Bi→Ab→Option Int)(L:Nat)(a1:Ab)(a0:Bi)(n:Nat)(hl:a1.Kids.length≤maxLen)(hn:a1.Kids.length < n):∀(Al:Int),Gk Ed L a1 a0 n Al 0=E7 Ed L a1 a0 a1.Kids 0 Al:=lQ (fun k i n=>∀(Al:Int),Gk Ed L a1 a0 n Al (i:Int)=E7 Ed L a1 a0 k i Al) hl hn (fun n i h Al=>by simp only [Gk,P2,E7,F0 h,aN,aB,aC]) (fun n i x k h hx ih Al=>by simp only [Gk,P2,E7,F1 h,Qu h,hx,Bd h hl,ih,aN,aB,aC])
def J3(L:Nat)(a0:Ad)(a1:Bn):List Ab→Nat→Int→Option (Nat×Int×Int)
 | [],i,E8=>(some (1,(E8,(i:Int))))
 |x::k,i,E8=>(Option.bind (Ps L x) fun r6=>
 (bif (r6 != 0) then (some (0,(r6,(i:Int))))
 else (J3 L a0 a1 k (i+1) E8)))
theorem Awn(L:Nat)(a0:Ad)(a1:Bn)(n:Nat)(hl:a0.Args.length≤maxLen)(hn:a0.Args.length < n):∀(E8:Int),Md L a0 a1 n E8 0=J3 L a0 a1 a0.Args 0 E8:=lQ (fun k i n=>∀(E8:Int),Md L a0 a1 n E8 (i:Int)=J3 L a0 a1 k i E8) hl hn (fun n i h E8=>by simp only [Md,Yr,J3,F0 h,aN,aB,aC]) (fun n i x k h hx ih E8=>by simp only [Md,Yr,J3,F1 h,Qu h,hx,Bd h hl,ih,aN,aB,aC])
def Ml(Eh:(List Ad)→Option Int)(L:Nat)(a0:List Ad):List Ad→Nat→Int→Option (Nat×Int×Int)
 | [],i,Al=>(some (1,(Al,(i:Int))))
 |x::k,i,Al=>(Option.bind (Ab7 L (x.Op)) fun r1=>
 (Option.bind (bif (!r1.2) then (some true)
 else (Option.bind (Ab6 L x r1.1) fun r3=>
 (some (!r3)))) fun b2=>
 (bif b2 then (some (0,(1,(i:Int))))
 else (Option.bind (Zx L x r1.1) fun r4=>
 (bif (r4 != 0) then (some (0,(r4,(i:Int))))
 else (Option.bind (Eh (x.Body)) fun r5=>
 (bif (r5 != 0) then (some (0,(r5,(i:Int))))
 else (Option.bind (Eh (x.Else)) fun r6=>
 (bif (r6 != 0) then (some (0,(r6,(i:Int))))
 else (Ml Eh L a0 k (i+1) Al))))))))))
theorem Awm(Eh:(List Ad)→Option Int)(L:Nat)(a0:List Ad)(n:Nat)(hl:a0.length≤maxLen)(hn:a0.length < n):∀(Al:Int),Ma Eh L a0 n Al 0=Ml Eh L a0 a0 0 Al:=lQ (fun k i n=>∀(Al:Int),Ma Eh L a0 n Al (i:Int)=Ml Eh L a0 k i Al) hl hn (fun n i h Al=>by simp only [Ma,Yq,Ml,F0 h,aN,aB,aC]) (fun n i x k h hx ih Al=>by simp only [Ma,Yq,Ml,F1 h,Qu h,hx,Bd h hl,ih,aN,aB,aC])
def D9(L:Nat)(r2:List Ao)(a0:Ap):List Ao→Nat→Int→List ByteArray→List Bool→Option (Nat×Int×Int×List ByteArray×List Bool)
 | [],i,Al,C2,Dg=>(some (1,(Al,(i:Int),C2,Dg)))
 |x::k,i,Al,C2,Dg=>(Option.bind (Ki L (x.Name) a0 x C2 Dg) fun o7=>
 (bif (o7.1 != 0) then (some (0,(o7.1,(i:Int),o7.2.1,o7.2.2)))
 else (Option.bind (K6 L (x.Type_)) fun r8=>
 (bif (!r8) then (some (0,(1,(i:Int),o7.2.1,o7.2.2)))
 else (D9 L r2 a0 k (i+1) Al o7.2.1 o7.2.2)))))
theorem Apq(L:Nat)(r2:List Ao)(a0:Ap)(n:Nat)(hl:r2.length≤maxLen)(hn:r2.length < n):∀(Al:Int) (C2:List ByteArray) (Dg:List Bool),Gm L r2 a0 n Al 0 C2 Dg=D9 L r2 a0 r2 0 Al C2 Dg:=lQ (fun k i n=>∀(Al:Int) (C2:List ByteArray) (Dg:List Bool),Gm L r2 a0 n Al (i:Int) C2 Dg=D9 L r2 a0 k i Al C2 Dg) hl hn (fun n i h Al C2 Dg=>by simp only [Gm,Zc,Sy,N9,D9,F0 h,aN,aB,aC]) (fun n i x k h hx ih Al C2 Dg=>by simp only [Gm,Zc,Sy,N9,D9,F1 h,Qu h,hx,Bd h hl,ih,aN,aB,aC])
def Ii(L:Nat)(p1_0:List Ap)(p1_1:Aa)(p1_2:ByteArray):List Ap→Nat→Int→Option (Nat×Int×Int)
 | [],i,Aj=>(some (1,(Aj,(i:Int))))
 |x::k,i,Aj=>(bif ((x.Name).toList == p1_2.toList) then (some (0,((i:Int),(i:Int))))
 else (Ii L p1_0 p1_1 p1_2 k (i+1) Aj))
theorem Apo(L:Nat)(p1_0:List Ap)(p1_1:Aa)(p1_2:ByteArray)(n:Nat)(hl:p1_0.length≤maxLen)(hn:p1_0.length < n):∀(Aj:Int),Ie L p1_0 p1_1 p1_2 n Aj 0=Ii L p1_0 p1_1 p1_2 p1_0 0 Aj:=lQ (fun k i n=>∀(Aj:Int),Ie L p1_0 p1_1 p1_2 n Aj (i:Int)=Ii L p1_0 p1_1 p1_2 k i Aj) hl hn (fun n i h Aj=>by simp only [Ie,Sp,Ii,F0 h,aN,aB,aC]) (fun n i x k h hx ih Aj=>by simp only [Ie,Sp,Ii,F1 h,Qu h,hx,Bd h hl,ih,aN,aB,aC])
def Ip(L:Nat)(a0:Aa)(r1:Int)(a1:Bt):List Int→Nat→Int→Option (Nat×Int×Int)
 | [],i,Al=>(some (1,(Al,(i:Int))))
 |x::k,i,Al=>(if ((i:Int) < ((((a0.Routines.getD (Int.toNat r1) default).Params).length:Nat):Int)) then (Option.bind (Si L ((((a0.Routines.getD (Int.toNat r1) default).Params).getD (Int.toNat (i:Int)) default).Type_) x) fun r2=>
 (bif (!r2) then (some (0,(2,(i:Int))))
 else (Ip L a0 r1 a1 k (i+1) Al))) else none)
theorem Aul(L:Nat)(a0:Aa)(r1:Int)(a1:Bt)(n:Nat)(hl:a1.Args.length≤maxLen)(hn:a1.Args.length < n):∀(Al:Int),Kr L a0 r1 a1 n Al 0=Ip L a0 r1 a1 a1.Args 0 Al:=lQ (fun k i n=>∀(Al:Int),Kr L a0 r1 a1 n Al (i:Int)=Ip L a0 r1 a1 k i Al) hl hn (fun n i h Al=>by simp only [Kr,V8,Ip,F0 h,aN,aB,aC]) (fun n i x k h hx ih Al=>by simp only [Kr,V8,Ip,F1 h,Qu h,hx,Bd h hl,ih,aN,aB,aC])
def Mk(L:Nat)(p1_0:List Ar)(p1_1:Aa)(p1_2:Ay):List Ar→Nat→Int→Option (Nat×Int×Int)
 | [],i,Aj=>(some (1,(Aj,(i:Int))))
 |x::k,i,Aj=>(bif ((x.Name).toList == p1_2.Name.toList) then (some (0,((i:Int),(i:Int))))
 else (Mk L p1_0 p1_1 p1_2 k (i+1) Aj))
theorem Awj(L:Nat)(p1_0:List Ar)(p1_1:Aa)(p1_2:Ay)(n:Nat)(hl:p1_0.length≤maxLen)(hn:p1_0.length < n):∀(Aj:Int),L7 L p1_0 p1_1 p1_2 n Aj 0=Mk L p1_0 p1_1 p1_2 p1_0 0 Aj:=lQ (fun k i n=>∀(Aj:Int),L7 L p1_0 p1_1 p1_2 n Aj (i:Int)=Mk L p1_0 p1_1 p1_2 k i Aj) hl hn (fun n i h Aj=>by simp only [L7,Ym,Mk,F0 h,aN,aB,aC]) (fun n i x k h hx ih Aj=>by simp only [L7,Ym,Mk,F1 h,Qu h,hx,Bd h hl,ih,aN,aB,aC])
def Oz(L:Nat)(p11_0:List Ay)(p11_1:Aa)(p11_2:List ByteArray)(p11_3:List Bool)(p11_4:Az)(p11_5:Az):List Ay→Nat→Int→Option (Nat×Int×Int)
 | [],i,Bl=>(some (1,(Bl,(i:Int))))
 |x::k,i,Bl=>(Option.bind (Vt L p11_1 x) fun r6=>
 (bif (r6 != 0) then (some (0,(r6,(i:Int))))
 else (Oz L p11_0 p11_1 p11_2 p11_3 p11_4 p11_5 k (i+1) Bl)))
theorem Awb(L:Nat)(p11_0:List Ay)(p11_1:Aa)(p11_2:List ByteArray)(p11_3:List Bool)(p11_4:Az)(p11_5:Az)(n:Nat)(hl:p11_0.length≤maxLen)(hn:p11_0.length < n):∀(Bl:Int),L5 L p11_0 p11_1 p11_2 p11_3 p11_4 p11_5 n Bl 0=Oz L p11_0 p11_1 p11_2 p11_3 p11_4 p11_5 p11_0 0 Bl:=lQ (fun k i n=>∀(Bl:Int),L5 L p11_0 p11_1 p11_2 p11_3 p11_4 p11_5 n Bl (i:Int)=Oz L p11_0 p11_1 p11_2 p11_3 p11_4 p11_5 k i Bl) hl hn (fun n i h Bl=>by simp only [L5,Yk,Oz,F0 h,aN,aB,aC]) (fun n i x k h hx ih Bl=>by simp only [L5,Yk,Oz,F1 h,Qu h,hx,Bd h hl,ih,aN,aB,aC])
def Oy(L:Nat)(p1_0:List Az)(p1_1:Aa):List Az→Nat→Int→List ByteArray→List Bool→Option (Nat×Int×Int×List ByteArray×List Bool)
 | [],i,Al,De,Df=>(some (1,(Al,(i:Int),De,Df)))
 |x::k,i,Al,De,Df=>(Option.bind (Ox L x p1_1 De Df x) fun o10=>
 (bif (o10.1 != 0) then (some (0,(o10.1,(i:Int),o10.2.1,o10.2.2)))
 else (Oy L p1_0 p1_1 k (i+1) Al o10.2.1 o10.2.2)))
theorem Awa(L:Nat)(p1_0:List Az)(p1_1:Aa)(n:Nat)(hl:p1_0.length≤maxLen)(hn:p1_0.length < n):∀(Al:Int) (De:List ByteArray) (Df:List Bool),Ju L p1_0 p1_1 n Al 0 De Df=Oy L p1_0 p1_1 p1_0 0 Al De Df:=lQ (fun k i n=>∀(Al:Int) (De:List ByteArray) (Df:List Bool),Ju L p1_0 p1_1 n Al (i:Int) De Df=Oy L p1_0 p1_1 k i Al De Df) hl hn (fun n i h Al De Df=>by simp only [Ju,Ac3,W3,Rv,Oy,F0 h,aN,aB,aC]) (fun n i x k h hx ih Al De Df=>by simp only [Ju,Ac3,W3,Rv,Oy,F1 h,Qu h,hx,Bd h hl,ih,aN,aB,aC])
def O0(L:Nat)(p41_0:List Ag)(p41_1:Aa):List Ag→Nat→Int→List ByteArray→List Bool→Option (Nat×Int×Int×List ByteArray×List Bool)
 | [],i,Al,De,Df=>(some (1,(Al,(i:Int),De,Df)))
 |x::k,i,Al,De,Df=>(Option.bind (Nl L x p41_1 De Df x) fun o8=>
 (bif (o8.1 != 0) then (some (0,(o8.1,(i:Int),o8.2.1,o8.2.2)))
 else (O0 L p41_0 p41_1 k (i+1) Al o8.2.1 o8.2.2)))
theorem Awc(L:Nat)(p41_0:List Ag)(p41_1:Aa)(n:Nat)(hl:p41_0.length≤maxLen)(hn:p41_0.length < n):∀(Al:Int) (De:List ByteArray) (Df:List Bool),Jv L p41_0 p41_1 n Al 0 De Df=O0 L p41_0 p41_1 p41_0 0 Al De Df:=lQ (fun k i n=>∀(Al:Int) (De:List ByteArray) (Df:List Bool),Jv L p41_0 p41_1 n Al (i:Int) De Df=O0 L p41_0 p41_1 k i Al De Df) hl hn (fun n i h Al De Df=>by simp only [Jv,Ac4,W7,Rz,O0,F0 h,aN,aB,aC]) (fun n i x k h hx ih Al De Df=>by simp only [Jv,Ac4,W7,Rz,O0,F1 h,Qu h,hx,Bd h hl,ih,aN,aB,aC])
def O1(L:Nat)(p48_0:List Ah)(p48_1:Aa):List Ah→Nat→Int→List ByteArray→List Bool→Option (Nat×Int×Int×List ByteArray×List Bool)
 | [],i,Bl,Mt,Mu=>(some (1,(Bl,(i:Int),Mt,Mu)))
 |x::k,i,Bl,Mt,Mu=>(Option.bind (Nm L x p48_1 Mt Mu x) fun o19=>
 (bif (o19.1 != 0) then (some (0,(o19.1,(i:Int),o19.2.1,o19.2.2)))
 else (O1 L p48_0 p48_1 k (i+1) Bl o19.2.1 o19.2.2)))
theorem Awd(L:Nat)(p48_0:List Ah)(p48_1:Aa)(n:Nat)(hl:p48_0.length≤maxLen)(hn:p48_0.length < n):∀(Bl:Int) (Mt:List ByteArray) (Mu:List Bool),Jw L p48_0 p48_1 n Bl 0 Mt Mu=O1 L p48_0 p48_1 p48_0 0 Bl Mt Mu:=lQ (fun k i n=>∀(Bl:Int) (Mt:List ByteArray) (Mu:List Bool),Jw L p48_0 p48_1 n Bl (i:Int) Mt Mu=O1 L p48_0 p48_1 k i Bl Mt Mu) hl hn (fun n i h Bl Mt Mu=>by simp only [Jw,Ac5,W8,R1,O1,F0 h,aN,aB,aC]) (fun n i x k h hx ih Bl Mt Mu=>by simp only [Jw,Ac5,W8,R1,O1,F1 h,Qu h,hx,Bd h hl,ih,aN,aB,aC])
def O2(L:Nat)(p55_0:List Ar)(p55_1:Aa):List Ar→Nat→Int→List ByteArray→List Bool→Option (Nat×Int×Int×List ByteArray×List Bool)
 | [],i,E8,H8,Mv=>(some (1,(E8,(i:Int),H8,Mv)))
 |x::k,i,E8,H8,Mv=>(Option.bind (Nn L x p55_1 H8 Mv x) fun o29=>
 (bif (o29.1 != 0) then (some (0,(o29.1,(i:Int),o29.2.1,o29.2.2)))
 else (O2 L p55_0 p55_1 k (i+1) E8 o29.2.1 o29.2.2)))
theorem Awe(L:Nat)(p55_0:List Ar)(p55_1:Aa)(n:Nat)(hl:p55_0.length≤maxLen)(hn:p55_0.length < n):∀(E8:Int) (H8:List ByteArray) (Mv:List Bool),Jx L p55_0 p55_1 n E8 0 H8 Mv=O2 L p55_0 p55_1 p55_0 0 E8 H8 Mv:=lQ (fun k i n=>∀(E8:Int) (H8:List ByteArray) (Mv:List Bool),Jx L p55_0 p55_1 n E8 (i:Int) H8 Mv=O2 L p55_0 p55_1 k i E8 H8 Mv) hl hn (fun n i h E8 H8 Mv=>by simp only [Jx,Ac6,W9,R2,O2,F0 h,aN,aB,aC]) (fun n i x k h hx ih E8 H8 Mv=>by simp only [Jx,Ac6,W9,R2,O2,F1 h,Qu h,hx,Bd h hl,ih,aN,aB,aC])
def O3(L:Nat)(p62_0:List Aw)(p62_1:Aa):List Aw→Nat→Int→List ByteArray→List Bool→Option (Nat×Int×Int×List ByteArray×List Bool)
 | [],i,Iw,Mw,H9=>(some (1,(Iw,(i:Int),Mw,H9)))
 |x::k,i,Iw,Mw,H9=>(Option.bind (No L x p62_1 Mw H9 x) fun o40=>
 (bif (o40.1 != 0) then (some (0,(o40.1,(i:Int),o40.2.1,o40.2.2)))
 else (O3 L p62_0 p62_1 k (i+1) Iw o40.2.1 o40.2.2)))
theorem Awf(L:Nat)(p62_0:List Aw)(p62_1:Aa)(n:Nat)(hl:p62_0.length≤maxLen)(hn:p62_0.length < n):∀(Iw:Int) (Mw:List ByteArray) (H9:List Bool),Jy L p62_0 p62_1 n Iw 0 Mw H9=O3 L p62_0 p62_1 p62_0 0 Iw Mw H9:=lQ (fun k i n=>∀(Iw:Int) (Mw:List ByteArray) (H9:List Bool),Jy L p62_0 p62_1 n Iw (i:Int) Mw H9=O3 L p62_0 p62_1 k i Iw Mw H9) hl hn (fun n i h Iw Mw H9=>by simp only [Jy,Ac7,Xa,R3,O3,F0 h,aN,aB,aC]) (fun n i x k h hx ih Iw Mw H9=>by simp only [Jy,Ac7,Xa,R3,O3,F1 h,Qu h,hx,Bd h hl,ih,aN,aB,aC])
def O5(L:Nat)(p69_0:List ByteArray)(p69_1:Aa):List ByteArray→Nat→Int→List ByteArray→List Bool→Option (Nat×Int×Int×List ByteArray×List Bool)
 | [],i,Lf,Mx,My=>(some (1,(Lf,(i:Int),Mx,My)))
 |x::k,i,Lf,Mx,My=>(Option.bind (Np L x p69_1 Mx My) fun o47=>
 (bif (o47.1 != 0) then (some (0,(o47.1,(i:Int),o47.2.1,o47.2.2)))
 else (O5 L p69_0 p69_1 k (i+1) Lf o47.2.1 o47.2.2)))
theorem Awg(L:Nat)(p69_0:List ByteArray)(p69_1:Aa)(n:Nat)(hl:p69_0.length≤maxLen)(hn:p69_0.length < n):∀(Lf:Int) (Mx:List ByteArray) (My:List Bool),Jz L p69_0 p69_1 n Lf 0 Mx My=O5 L p69_0 p69_1 p69_0 0 Lf Mx My:=lQ (fun k i n=>∀(Lf:Int) (Mx:List ByteArray) (My:List Bool),Jz L p69_0 p69_1 n Lf (i:Int) Mx My=O5 L p69_0 p69_1 k i Lf Mx My) hl hn (fun n i h Lf Mx My=>by simp only [Jz,Ac8,Xb,R4,O5,F0 h,aN,aB,aC]) (fun n i x k h hx ih Lf Mx My=>by simp only [Jz,Ac8,Xb,R4,O5,F1 h,Qu h,hx,Bd h hl,ih,aN,aB,aC])
def O7(L:Nat)(p72_0:List Ap)(p72_1:Aa):List Ap→Nat→Int→List ByteArray→List Bool→Option (Nat×Int×Int×List ByteArray×List Bool)
 | [],i,Lg,Mz,M3=>(some (1,(Lg,(i:Int),Mz,M3)))
 |x::k,i,Lg,Mz,M3=>(Option.bind (Nq L x p72_1 Mz M3 x) fun o60=>
 (bif (o60.1 != 0) then (some (0,(o60.1,(i:Int),o60.2.1,o60.2.2)))
 else (O7 L p72_0 p72_1 k (i+1) Lg o60.2.1 o60.2.2)))
theorem Awh(L:Nat)(p72_0:List Ap)(p72_1:Aa)(n:Nat)(hl:p72_0.length≤maxLen)(hn:p72_0.length < n):∀(Lg:Int) (Mz:List ByteArray) (M3:List Bool),J0 L p72_0 p72_1 n Lg 0 Mz M3=O7 L p72_0 p72_1 p72_0 0 Lg Mz M3:=lQ (fun k i n=>∀(Lg:Int) (Mz:List ByteArray) (M3:List Bool),J0 L p72_0 p72_1 n Lg (i:Int) Mz M3=O7 L p72_0 p72_1 k i Lg Mz M3) hl hn (fun n i h Lg Mz M3=>by simp only [J0,Ac9,U1,Qa,O7,F0 h,aN,aB,aC]) (fun n i x k h hx ih Lg Mz M3=>by simp only [J0,Ac9,U1,Qa,O7,F1 h,Qu h,hx,Bd h hl,ih,aN,aB,aC])
def Ph(L:Nat)(p79_0:List Bt)(p79_1:Aa)(p79_2:List ByteArray)(p79_3:List Bool):List Bt→Nat→Int→Option (Nat×Int×Int)
 | [],i,Al8=>(some (1,(Al8,(i:Int))))
 |x::k,i,Al8=>(Option.bind (Tr L p79_1 x) fun r63=>
 (bif (r63 != 0) then (some (0,(r63,(i:Int))))
 else (Ph L p79_0 p79_1 p79_2 p79_3 k (i+1) Al8)))
theorem Awi(L:Nat)(p79_0:List Bt)(p79_1:Aa)(p79_2:List ByteArray)(p79_3:List Bool)(n:Nat)(hl:p79_0.length≤maxLen)(hn:p79_0.length < n):∀(Al8:Int),L6 L p79_0 p79_1 p79_2 p79_3 n Al8 0=Ph L p79_0 p79_1 p79_2 p79_3 p79_0 0 Al8:=lQ (fun k i n=>∀(Al8:Int),L6 L p79_0 p79_1 p79_2 p79_3 n Al8 (i:Int)=Ph L p79_0 p79_1 p79_2 p79_3 k i Al8) hl hn (fun n i h Al8=>by simp only [L6,Yl,Ph,F0 h,aN,aB,aC]) (fun n i x k h hx ih Al8=>by simp only [L6,Yl,Ph,F1 h,Qu h,hx,Bd h hl,ih,aN,aB,aC])
def Mj(L:Nat)(p1_0:List Aa)(p1_1:Ac)(p1_2:ByteArray):List Aa→Nat→Int→Option (Nat×Int×Int)
 | [],i,Aj=>(some (1,(Aj,(i:Int))))
 |x::k,i,Aj=>(bif ((x.Name).toList == p1_2.toList) then (some (0,((i:Int),(i:Int))))
 else (Mj L p1_0 p1_1 p1_2 k (i+1) Aj))
theorem Av9(L:Nat)(p1_0:List Aa)(p1_1:Ac)(p1_2:ByteArray)(n:Nat)(hl:p1_0.length≤maxLen)(hn:p1_0.length < n):∀(Aj:Int),L4 L p1_0 p1_1 p1_2 n Aj 0=Mj L p1_0 p1_1 p1_2 p1_0 0 Aj:=lQ (fun k i n=>∀(Aj:Int),L4 L p1_0 p1_1 p1_2 n Aj (i:Int)=Mj L p1_0 p1_1 p1_2 k i Aj) hl hn (fun n i h Aj=>by simp only [L4,Yj,Mj,F0 h,aN,aB,aC]) (fun n i x k h hx ih Aj=>by simp only [L4,Yj,Mj,F1 h,Qu h,hx,Bd h hl,ih,aN,aB,aC])
def Io(L:Nat)(p1_0:List Bj)(p1_1:Ac):List Bj→Nat→Int→List Bo→List Bool→Option (Nat×Int×Int×List Bo×List Bool)
 | [],i,Al,C2,Dg=>(some (1,(Al,(i:Int),C2,Dg)))
 |x::k,i,Al,C2,Dg=>(Option.bind (Rm L x p1_1 C2 Dg x) fun o8=>
 (bif (o8.1 != 0) then (some (0,(o8.1,(i:Int),o8.2.1,o8.2.2)))
 else (Io L p1_0 p1_1 k (i+1) Al o8.2.1 o8.2.2)))
theorem Aug(L:Nat)(p1_0:List Bj)(p1_1:Ac)(n:Nat)(hl:p1_0.length≤maxLen)(hn:p1_0.length < n):∀(Al:Int) (C2:List Bo) (Dg:List Bool),Im L p1_0 p1_1 n Al 0 C2 Dg=Io L p1_0 p1_1 p1_0 0 Al C2 Dg:=lQ (fun k i n=>∀(Al:Int) (C2:List Bo) (Dg:List Bool),Im L p1_0 p1_1 n Al (i:Int) C2 Dg=Io L p1_0 p1_1 k i Al C2 Dg) hl hn (fun n i h Al C2 Dg=>by simp only [Im,Aae,W4,Rx,Io,F0 h,aN,aB,aC]) (fun n i x k h hx ih Al C2 Dg=>by simp only [Im,Aae,W4,Rx,Io,F1 h,Qu h,hx,Bd h hl,ih,aN,aB,aC])
def Nr(L:Nat)(p1_0:List Ag)(p1_1:Ac):List Ag→Nat→Int→List ByteArray→List Bool→Option (Nat×Int×Int×List ByteArray×List Bool)
 | [],i,Al,C2,Dg=>(some (1,(Al,(i:Int),C2,Dg)))
 |x::k,i,Al,C2,Dg=>(Option.bind (Nk L x p1_1 C2 Dg x) fun o9=>
 (bif (o9.1 != 0) then (some (0,(o9.1,(i:Int),o9.2.1,o9.2.2)))
 else (Nr L p1_0 p1_1 k (i+1) Al o9.2.1 o9.2.2)))
theorem Aue(L:Nat)(p1_0:List Ag)(p1_1:Ac)(n:Nat)(hl:p1_0.length≤maxLen)(hn:p1_0.length < n):∀(Al:Int) (C2:List ByteArray) (Dg:List Bool),Ik L p1_0 p1_1 n Al 0 C2 Dg=Nr L p1_0 p1_1 p1_0 0 Al C2 Dg:=lQ (fun k i n=>∀(Al:Int) (C2:List ByteArray) (Dg:List Bool),Ik L p1_0 p1_1 n Al (i:Int) C2 Dg=Nr L p1_0 p1_1 k i Al C2 Dg) hl hn (fun n i h Al C2 Dg=>by simp only [Ik,Aac,W1,Ru,Nr,F0 h,aN,aB,aC]) (fun n i x k h hx ih Al C2 Dg=>by simp only [Ik,Aac,W1,Ru,Nr,F1 h,Qu h,hx,Bd h hl,ih,aN,aB,aC])
def Ns(L:Nat)(p8_0:List Aa)(p8_1:Ac)(p8_2:List ByteArray)(p8_3:List Bool):List Aa→Nat→Int→List ByteArray→List Bool→Option (Nat×Int×Int×List ByteArray×List Bool)
 | [],i,Bl,Iz,Ms=>(some (1,(Bl,(i:Int),Iz,Ms)))
 |x::k,i,Bl,Iz,Ms=>(Option.bind (Lr L x p8_1 p8_2 p8_3 Iz Ms x) fun o18=>
 (bif (o18.1 != 0) then (some (0,(o18.1,(i:Int),o18.2.1,o18.2.2)))
 else (Ns L p8_0 p8_1 p8_2 p8_3 k (i+1) Bl o18.2.1 o18.2.2)))
theorem Auf(L:Nat)(p8_0:List Aa)(p8_1:Ac)(p8_2:List ByteArray)(p8_3:List Bool)(n:Nat)(hl:p8_0.length≤maxLen)(hn:p8_0.length < n):∀(Bl:Int) (Iz:List ByteArray) (Ms:List Bool),Il L p8_0 p8_1 p8_2 p8_3 n Bl 0 Iz Ms=Ns L p8_0 p8_1 p8_2 p8_3 p8_0 0 Bl Iz Ms:=lQ (fun k i n=>∀(Bl:Int) (Iz:List ByteArray) (Ms:List Bool),Il L p8_0 p8_1 p8_2 p8_3 n Bl (i:Int) Iz Ms=Ns L p8_0 p8_1 p8_2 p8_3 k i Bl Iz Ms) hl hn (fun n i h Bl Iz Ms=>by simp only [Il,Aad,Uy,P7,Ns,F0 h,aN,aB,aC]) (fun n i x k h hx ih Bl Iz Ms=>by simp only [Il,Aad,Uy,P7,Ns,F1 h,Qu h,hx,Bd h hl,ih,aN,aB,aC])
def K3(L:Nat)(a1:ByteArray)(a0:Au):List Ag→Nat→Int→Bool→Option (Nat×Int×Bool×Int)
 | [],i,Aj,Ak=>(some (1,(Aj,Ak,(i:Int))))
 |x::k,i,Aj,Ak=>(bif ((x.Name).toList == a1.toList) then (some (0,((x.Type_),true,(i:Int))))
 else (K3 L a1 a0 k (i+1) Aj Ak))
theorem Aum(L:Nat)(a1:ByteArray)(a0:Au)(n:Nat)(hl:a0.Site.Vars.length≤maxLen)(hn:a0.Site.Vars.length < n):∀(Aj:Int) (Ak:Bool),Kt L a1 a0 n Aj Ak 0=K3 L a1 a0 a0.Site.Vars 0 Aj Ak:=lQ (fun k i n=>∀(Aj:Int) (Ak:Bool),Kt L a1 a0 n Aj Ak (i:Int)=K3 L a1 a0 k i Aj Ak) hl hn (fun n i h Aj Ak=>by simp only [Kt,V9,K3,F0 h,aN,aB,aC]) (fun n i x k h hx ih Aj Ak=>by simp only [Kt,V9,K3,F1 h,Qu h,hx,Bd h hl,ih,aN,aB,aC])
def K4(L:Nat)(a1:ByteArray)(a0:Au):List Ag→Nat→Int→Bool→Option (Nat×Int×Bool×Int)
 | [],i,Bv,It=>(some (1,(Bv,It,(i:Int))))
 |x::k,i,Bv,It=>(bif ((x.Name).toList == a1.toList) then (some (0,((x.Type_),true,(i:Int))))
 else (K4 L a1 a0 k (i+1) Bv It))
theorem Aun(L:Nat)(a1:ByteArray)(a0:Au)(n:Nat)(hl:a0.Params.length≤maxLen)(hn:a0.Params.length < n):∀(Bv:Int) (It:Bool),Ku L a1 a0 n Bv It 0=K4 L a1 a0 a0.Params 0 Bv It:=lQ (fun k i n=>∀(Bv:Int) (It:Bool),Ku L a1 a0 n Bv It (i:Int)=K4 L a1 a0 k i Bv It) hl hn (fun n i h Bv It=>by simp only [Ku,Wa,K4,F0 h,aN,aB,aC]) (fun n i x k h hx ih Bv It=>by simp only [Ku,Wa,K4,F1 h,Qu h,hx,Bd h hl,ih,aN,aB,aC])
def Kz(L:Nat)(p1_0:List Ag)(p1_1:Aa)(p1_2:ByteArray):List Ag→Nat→Int→Option (Nat×Int×Int)
 | [],i,Aj=>(some (1,(Aj,(i:Int))))
 |x::k,i,Aj=>(bif ((x.Name).toList == p1_2.toList) then (some (0,((i:Int),(i:Int))))
 else (Kz L p1_0 p1_1 p1_2 k (i+1) Aj))
theorem Auh(L:Nat)(p1_0:List Ag)(p1_1:Aa)(p1_2:ByteArray)(n:Nat)(hl:p1_0.length≤maxLen)(hn:p1_0.length < n):∀(Aj:Int),Kn L p1_0 p1_1 p1_2 n Aj 0=Kz L p1_0 p1_1 p1_2 p1_0 0 Aj:=lQ (fun k i n=>∀(Aj:Int),Kn L p1_0 p1_1 p1_2 n Aj (i:Int)=Kz L p1_0 p1_1 p1_2 k i Aj) hl hn (fun n i h Aj=>by simp only [Kn,V4,Kz,F0 h,aN,aB,aC]) (fun n i x k h hx ih Aj=>by simp only [Kn,V4,Kz,F1 h,Qu h,hx,Bd h hl,ih,aN,aB,aC])
def K0(L:Nat)(p2_0:List Ah)(p2_1:Aa)(p2_2:ByteArray):List Ah→Nat→Int→Option (Nat×Int×Int)
 | [],i,Bv=>(some (1,(Bv,(i:Int))))
 |x::k,i,Bv=>(bif ((x.Name).toList == p2_2.toList) then (some (0,((i:Int),(i:Int))))
 else (K0 L p2_0 p2_1 p2_2 k (i+1) Bv))
theorem Aui(L:Nat)(p2_0:List Ah)(p2_1:Aa)(p2_2:ByteArray)(n:Nat)(hl:p2_0.length≤maxLen)(hn:p2_0.length < n):∀(Bv:Int),Ko L p2_0 p2_1 p2_2 n Bv 0=K0 L p2_0 p2_1 p2_2 p2_0 0 Bv:=lQ (fun k i n=>∀(Bv:Int),Ko L p2_0 p2_1 p2_2 n Bv (i:Int)=K0 L p2_0 p2_1 p2_2 k i Bv) hl hn (fun n i h Bv=>by simp only [Ko,V5,K0,F0 h,aN,aB,aC]) (fun n i x k h hx ih Bv=>by simp only [Ko,V5,K0,F1 h,Qu h,hx,Bd h hl,ih,aN,aB,aC])
def K1(L:Nat)(p3_0:List Ar)(p3_1:Aa)(p3_2:ByteArray):List Ar→Nat→Int→Option (Nat×Int×Int)
 | [],i,Fs=>(some (1,(Fs,(i:Int))))
 |x::k,i,Fs=>(bif ((x.Name).toList == p3_2.toList) then (some (0,((i:Int),(i:Int))))
 else (K1 L p3_0 p3_1 p3_2 k (i+1) Fs))
theorem Auj(L:Nat)(p3_0:List Ar)(p3_1:Aa)(p3_2:ByteArray)(n:Nat)(hl:p3_0.length≤maxLen)(hn:p3_0.length < n):∀(Fs:Int),Kp L p3_0 p3_1 p3_2 n Fs 0=K1 L p3_0 p3_1 p3_2 p3_0 0 Fs:=lQ (fun k i n=>∀(Fs:Int),Kp L p3_0 p3_1 p3_2 n Fs (i:Int)=K1 L p3_0 p3_1 p3_2 k i Fs) hl hn (fun n i h Fs=>by simp only [Kp,V6,K1,F0 h,aN,aB,aC]) (fun n i x k h hx ih Fs=>by simp only [Kp,V6,K1,F1 h,Qu h,hx,Bd h hl,ih,aN,aB,aC])
def K2(L:Nat)(p4_0:List Aw)(p4_1:Aa)(p4_2:ByteArray):List Aw→Nat→Int→Option (Nat×Int×Int)
 | [],i,Cx=>(some (1,(Cx,(i:Int))))
 |x::k,i,Cx=>(bif ((x.Name).toList == p4_2.toList) then (some (0,((i:Int),(i:Int))))
 else (K2 L p4_0 p4_1 p4_2 k (i+1) Cx))
theorem Auk(L:Nat)(p4_0:List Aw)(p4_1:Aa)(p4_2:ByteArray)(n:Nat)(hl:p4_0.length≤maxLen)(hn:p4_0.length < n):∀(Cx:Int),Kq L p4_0 p4_1 p4_2 n Cx 0=K2 L p4_0 p4_1 p4_2 p4_0 0 Cx:=lQ (fun k i n=>∀(Cx:Int),Kq L p4_0 p4_1 p4_2 n Cx (i:Int)=K2 L p4_0 p4_1 p4_2 k i Cx) hl hn (fun n i h Cx=>by simp only [Kq,V7,K2,F0 h,aN,aB,aC]) (fun n i x k h hx ih Cx=>by simp only [Kq,V7,K2,F1 h,Qu h,hx,Bd h hl,ih,aN,aB,aC])
def Iq(E5:Au→Ab→Option (Int×Int))(L:Nat)(a1:Ab)(a0:Au):List Ab→Nat→Int→Int→List Int→Option (Nat×Int×Int×List Int×Int)
 | [],i,Al,Aj,Ak=>(some (1,(Al,Aj,Ak,(i:Int))))
 |x::k,i,Al,Aj,Ak=>(Option.bind (E5 a0 x) fun r1=>
 (bif (r1.2 != 0) then (some (0,(0,r1.2,Ak,(i:Int))))
 else (if ((Ak.length+ [r1.1].length)*8≤140737488355328) then (if (Ak.length+ [r1.1].length≤maxLen) then (Iq E5 L a1 a0 k (i+1) Al Aj (Ak++ [r1.1])) else none) else none)))
theorem Auo(E5:Au→Ab→Option (Int×Int))(L:Nat)(a1:Ab)(a0:Au)(n:Nat)(hl:a1.Kids.length≤maxLen)(hn:a1.Kids.length < n):∀(Al:Int) (Aj:Int) (Ak:List Int),Kv E5 L a1 a0 n Al Aj Ak 0=Iq E5 L a1 a0 a1.Kids 0 Al Aj Ak:=lQ (fun k i n=>∀(Al:Int) (Aj:Int) (Ak:List Int),Kv E5 L a1 a0 n Al Aj Ak (i:Int)=Iq E5 L a1 a0 k i Al Aj Ak) hl hn (fun n i h Al Aj Ak=>by simp only [Kv,Wb,Iq,F0 h,aN,aB,aC]) (fun n i x k h hx ih Al Aj Ak=>by simp only [Kv,Wb,Iq,F1 h,Qu h,hx,Bd h hl,ih,aN,aB,aC])
def Dy(L:Nat)(r1:Int×Int)(a2:List Int)(a1:Ab):List Int→Nat→Int→Option (Nat×Int×Int)
 | [],i,Al=>(some (1,(Al,(i:Int))))
 |x::k,i,Al=>(bif (r1.1 == x) then (some (0,(0,(i:Int))))
 else (Dy L r1 a2 a1 k (i+1) Al))
theorem Afk(L:Nat)(r1:Int×Int)(a2:List Int)(a1:Ab)(n:Nat)(hl:a2.length≤maxLen)(hn:a2.length < n):∀(Al:Int),Dw L r1 a2 a1 n Al 0=Dy L r1 a2 a1 a2 0 Al:=lQ (fun k i n=>∀(Al:Int),Dw L r1 a2 a1 n Al (i:Int)=Dy L r1 a2 a1 k i Al) hl hn (fun n i h Al=>by simp only [Dw,J8,Dy,F0 h,aN,aB,aC]) (fun n i x k h hx ih Al=>by simp only [Dw,J8,Dy,F1 h,Qu h,hx,Bd h hl,ih,aN,aB,aC])
def Et(L:Nat)(a0:Am)(r1:Int×Bool)(a1:Ad):List Ag→Nat→Int→Option (Nat×Int×Int)
 | [],i,C4=>(some (1,(C4,(i:Int))))
 |x::k,i,C4=>(bif ((x.Name).toList == a1.Name.toList) then (Option.bind (Bq L a0 a1.E [x.Type_]) fun r2=>
 (some (0,(r2,(i:Int)))))
 else (Et L a0 r1 a1 k (i+1) C4))
theorem Ah8(L:Nat)(a0:Am)(r1:Int×Bool)(a1:Ad)(n:Nat)(hl:a0.u_env.Site.Vars.length≤maxLen)(hn:a0.u_env.Site.Vars.length < n):∀(C4:Int),Es L a0 r1 a1 n C4 0=Et L a0 r1 a1 a0.u_env.Site.Vars 0 C4:=lQ (fun k i n=>∀(C4:Int),Es L a0 r1 a1 n C4 (i:Int)=Et L a0 r1 a1 k i C4) hl hn (fun n i h C4=>by simp only [Es,Ls,Et,F0 h,aN,aB,aC]) (fun n i x k h hx ih C4=>by simp only [Es,Ls,Et,F1 h,Qu h,hx,Bd h hl,ih,aN,aB,aC])
def Dp(L:Nat)(r1:Int×Bool)(a2:List Int):List Int→Nat→Int→Option (Nat×Int×Int)
 | [],i,Al=>(some (1,(Al,(i:Int))))
 |x::k,i,Al=>(bif (r1.1 == x) then (some (0,(0,(i:Int))))
 else (Dp L r1 a2 k (i+1) Al))
theorem Ad1(L:Nat)(r1:Int×Bool)(a2:List Int)(n:Nat)(hl:a2.length≤maxLen)(hn:a2.length < n):∀(Al:Int),Dn L r1 a2 n Al 0=Dp L r1 a2 a2 0 Al:=lQ (fun k i n=>∀(Al:Int),Dn L r1 a2 n Al (i:Int)=Dp L r1 a2 k i Al) hl hn (fun n i h Al=>by simp only [Dn,I2,Dp,F0 h,aN,aB,aC]) (fun n i x k h hx ih Al=>by simp only [Dn,I2,Dp,F1 h,Qu h,hx,Bd h hl,ih,aN,aB,aC])
def Dx(L:Nat)(a0:Am)(a3:List Ab)(a1:Ad):List Ab→Nat→Int→Option (Nat×Int×Int)
 | [],i,C4=>(some (1,(C4,(i:Int))))
 |x::k,i,C4=>(Option.bind (Bq L a0 x [1]) fun r2=>
 (bif (r2 != 0) then (some (0,(r2,(i:Int))))
 else (Dx L a0 a3 a1 k (i+1) C4)))
theorem Afj(L:Nat)(a0:Am)(a3:List Ab)(a1:Ad)(n:Nat)(hl:a3.length≤maxLen)(hn:a3.length < n):∀(C4:Int),Dv L a0 a3 a1 n C4 0=Dx L a0 a3 a1 a3 0 C4:=lQ (fun k i n=>∀(C4:Int),Dv L a0 a3 a1 n C4 (i:Int)=Dx L a0 a3 a1 k i C4) hl hn (fun n i h C4=>by simp only [Dv,J7,Dx,F0 h,aN,aB,aC]) (fun n i x k h hx ih C4=>by simp only [Dv,J7,Dx,F1 h,Qu h,hx,Bd h hl,ih,aN,aB,aC])
def Mi(L:Nat)(p1_0:List Bj)(p1_1:Ac)(p1_2:ByteArray)(p1_3:ByteArray):List Bj→Nat→Int→Option (Nat×Int×Int)
 | [],i,Aj=>(some (1,(Aj,(i:Int))))
 |x::k,i,Aj=>((fun b1=>
 (bif b1 then (some (0,((i:Int),(i:Int))))
 else (Mi L p1_0 p1_1 p1_2 p1_3 k (i+1) Aj))) (bif ((x.From).toList == p1_2.toList) then ((x.To).toList == p1_3.toList)
 else false))
theorem Av8(L:Nat)(p1_0:List Bj)(p1_1:Ac)(p1_2:ByteArray)(p1_3:ByteArray)(n:Nat)(hl:p1_0.length≤maxLen)(hn:p1_0.length < n):∀(Aj:Int),L3 L p1_0 p1_1 p1_2 p1_3 n Aj 0=Mi L p1_0 p1_1 p1_2 p1_3 p1_0 0 Aj:=lQ (fun k i n=>∀(Aj:Int),L3 L p1_0 p1_1 p1_2 p1_3 n Aj (i:Int)=Mi L p1_0 p1_1 p1_2 p1_3 k i Aj) hl hn (fun n i h Aj=>by simp only [L3,Yi,Mi,F0 h,aN,aB,aC]) (fun n i x k h hx ih Aj=>by simp only [L3,Yi,Mi,F1 h,Qu h,hx,Bd h hl,ih,aN,aB,aC])
def Eb(L:Nat)(a0:Am)(a2:Ad)(a1:Ap):List Ab→Nat→Int→Option (Nat×Int×Int)
 | [],i,C4=>(some (1,(C4,(i:Int))))
 |x::k,i,C4=>(if ((i:Int) < (a1.Params.length:Int)) then (Option.bind (Bq L a0 x [(a1.Params.getD (Int.toNat (i:Int)) default).Type_]) fun r1=>
 (bif (r1 != 0) then (some (0,(r1,(i:Int))))
 else (Eb L a0 a2 a1 k (i+1) C4))) else none)
theorem Agp(L:Nat)(a0:Am)(a2:Ad)(a1:Ap)(n:Nat)(hl:a2.Args.length≤maxLen)(hn:a2.Args.length < n):∀(C4:Int),D7 L a0 a2 a1 n C4 0=Eb L a0 a2 a1 a2.Args 0 C4:=lQ (fun k i n=>∀(C4:Int),D7 L a0 a2 a1 n C4 (i:Int)=Eb L a0 a2 a1 k i C4) hl hn (fun n i h C4=>by simp only [D7,K9,Eb,F0 h,aN,aB,aC]) (fun n i x k h hx ih C4=>by simp only [D7,K9,Eb,F1 h,Qu h,hx,Bd h hl,ih,aN,aB,aC])
def Ec(H6:Am→(List Ad)→Option Int)(L:Nat)(a0:Am)(a1:List Ad):List Ad→Nat→Int→Option (Nat×Int×Int)
 | [],i,C4=>(some (1,(C4,(i:Int))))
 |x::k,i,C4=>(Option.bind (Li L a0 x) fun r1=>
 (bif (r1 != 0) then (some (0,(r1,(i:Int))))
 else (Option.bind (H6 a0 (x.Body)) fun r2=>
 (bif (r2 != 0) then (some (0,(r2,(i:Int))))
 else (Option.bind (H6 a0 (x.Else)) fun r3=>
 (bif (r3 != 0) then (some (0,(r3,(i:Int))))
 else (Ec H6 L a0 a1 k (i+1) C4)))))))
theorem Agq(H6:Am→(List Ad)→Option Int)(L:Nat)(a0:Am)(a1:List Ad)(n:Nat)(hl:a1.length≤maxLen)(hn:a1.length < n):∀(C4:Int),D8 H6 L a0 a1 n C4 0=Ec H6 L a0 a1 a1 0 C4:=lQ (fun k i n=>∀(C4:Int),D8 H6 L a0 a1 n C4 (i:Int)=Ec H6 L a0 a1 k i C4) hl hn (fun n i h C4=>by simp only [D8,La,Ec,F0 h,aN,aB,aC]) (fun n i x k h hx ih C4=>by simp only [D8,La,Ec,F1 h,Qu h,hx,Bd h hl,ih,aN,aB,aC])
def Jm(L:Nat)(Ai:Int)(a0:Ac):List Ap→Nat→Int→Option (Nat×Int×Int)
 | [],i,Bl=>(some (1,(Bl,(i:Int))))
 |x::k,i,Bl=>(if ((0+(x.Params).length)*24≤140737488355328) then (if (0+(x.Params).length≤maxLen) then (if (((x.Params).length+(x.Locals).length)*24≤140737488355328) then (if ((x.Params).length+(x.Locals).length≤maxLen) then (Option.bind (Rf L a0 Ai (x.Params++x.Locals) (x.Body)) fun r2=>
 (bif (r2 != 0) then (some (0,(r2,(i:Int))))
 else (Jm L Ai a0 k (i+1) Bl))) else none) else none) else none) else none)
theorem Asi(L:Nat)(Ai:Int)(a0:Ac)(n:Nat)(hl:((a0.Sites.getD (Int.toNat Ai) default).Routines).length≤maxLen)(hn:((a0.Sites.getD (Int.toNat Ai) default).Routines).length < n):∀(Bl:Int),Hk L Ai a0 n Bl 0=Jm L Ai a0 ((a0.Sites.getD (Int.toNat Ai) default).Routines) 0 Bl:=lQ (fun k i n=>∀(Bl:Int),Hk L Ai a0 n Bl (i:Int)=Jm L Ai a0 k i Bl) hl hn (fun n i h Bl=>by simp only [Hk,Ud,Jm,F0 h,aN,aB,aC]) (fun n i x k h hx ih Bl=>by simp only [Hk,Ud,Jm,F1 h,Qu h,hx,Bd h hl,ih,aN,aB,aC])
def Jl(L:Nat)(a0:Ac):List Aa→Nat→Int→Option (Nat×Int×Int)
 | [],i,Al=>(some (1,(Al,(i:Int))))
 |x::k,i,Al=>(Option.bind (Hk L (i:Int) a0 L Al 0) fun o3=>
 (Aw9 o3.1 [(some (0,(o3.2.1,(i:Int)))),(Jl L a0 k (i+1) o3.2.1)]))
theorem Ash(L:Nat)(a0:Ac)(n:Nat)(hl:a0.Sites.length≤maxLen)(hn:a0.Sites.length < n):∀(Al:Int),Hj L a0 n Al 0=Jl L a0 a0.Sites 0 Al:=lQ (fun k i n=>∀(Al:Int),Hj L a0 n Al (i:Int)=Jl L a0 k i Al) hl hn (fun n i h Al=>by simp only [Hj,g0,U2,Qc,Jl,F0 h,aN,aB,aC]) (fun n i x k h hx ih Al=>by simp only [Hj,g0,U2,Qc,Jl,F1 h,Qu h,hx,Bd h hl,ih,aN,aB,aC])
def Mf(L:Nat)(p4_0:List Ae)(p4_1:Ac)(p4_2:ByteArray)(p4_3:Ae)(p4_4:List Ag):List Ae→Nat→Int→Option (Nat×Int×Int)
 | [],i,Zr=>(some (1,(Zr,(i:Int))))
 |x::k,i,Zr=>(bif ((x.Name).toList == p4_3.Name.toList) then (some (0,((i:Int),(i:Int))))
 else (Mf L p4_0 p4_1 p4_2 p4_3 p4_4 k (i+1) Zr))
theorem Av5(L:Nat)(p4_0:List Ae)(p4_1:Ac)(p4_2:ByteArray)(p4_3:Ae)(p4_4:List Ag)(n:Nat)(hl:p4_0.length≤maxLen)(hn:p4_0.length < n):∀(Zr:Int),Lz L p4_0 p4_1 p4_2 p4_3 p4_4 n Zr 0=Mf L p4_0 p4_1 p4_2 p4_3 p4_4 p4_0 0 Zr:=lQ (fun k i n=>∀(Zr:Int),Lz L p4_0 p4_1 p4_2 p4_3 p4_4 n Zr (i:Int)=Mf L p4_0 p4_1 p4_2 p4_3 p4_4 k i Zr) hl hn (fun n i h Zr=>by simp only [Lz,Yf,Mf,F0 h,aN,aB,aC]) (fun n i x k h hx ih Zr=>by simp only [Lz,Yf,Mf,F1 h,Qu h,hx,Bd h hl,ih,aN,aB,aC])
def Me(L:Nat)(a1:List Ae)(a0:Ac):List Ae→Nat→Int→ByteArray→List Ag→Option (Nat×Int×Int×ByteArray×List Ag)
 | [],i,Cx,Dc,C6=>(some (1,(Cx,(i:Int),Dc,C6)))
 |x::k,i,Cx,Dc,C6=>(Option.bind (S5 L a0.Params.length a0 Dc x C6) fun o8=>
 (bif (decide (o8 < 0)) then (some (0,(5,(i:Int),(⟨#[]⟩:ByteArray),C6)))
 else (if ((0:Int)≤0) then (if (((i:Int):Int)≤(a1.length:Int)) then (if (((a1.length:Int):Int)≤(a1.length:Int)) then (Option.bind (S6 L ((a1.take (Int.toNat (i:Int))).drop 0) a0 Dc x C6) fun o10=>
 (bif (decide (o10≥0)) then (some (0,(4,(i:Int),(⟨#[]⟩:ByteArray),C6)))
 else (if (0≤o8) then (if (o8 < (a0.Params.length:Int)) then (Option.bind (Zi L ((C6.getD (Int.toNat o8) default).Type_) (x.N)) fun r11=>
 (bif (!r11) then (some (0,(2,(i:Int),(⟨#[]⟩:ByteArray),C6)))
 else (if (0≤o8) then (if (o8 < (a0.Params.length:Int)) then (Me L a1 a0 k (i+1) Cx Dc (C6.set (Int.toNat o8) (⟨(C6.getD (Int.toNat o8) default).Name,(C6.getD (Int.toNat o8) default).Type_,x.N⟩:Ag))) else none) else none))) else none) else none))) else none) else none) else none)))
theorem Av4(L:Nat)(a1:List Ae)(a0:Ac)(n:Nat)(hl:a1.length≤maxLen)(hn:a1.length < n):∀(Cx:Int) (Dc:ByteArray) (C6:List Ag),H0 L a1 a0 n Cx 0 Dc C6=Me L a1 a0 a1 0 Cx Dc C6:=lQ (fun k i n=>∀(Cx:Int) (Dc:ByteArray) (C6:List Ag),H0 L a1 a0 n Cx (i:Int) Dc C6=Me L a1 a0 k i Cx Dc C6) hl hn (fun n i h Cx Dc C6=>by simp only [H0,Ac2,Wz,Wg,W0,Rs,Me,F0 h,aN,aB,aC]) (fun n i x k h hx ih Cx Dc C6=>by simp only [H0,Ac2,Wz,Wg,W0,Rs,Me,F1 h,Qu h,hx,Bd h hl,ih,aN,aB,aC])
def Jd(L:Nat)(a0:List Int)(a1:List Int):List Int→Nat→Bool→Option (Nat×Bool×Int)
 | [],i,Ak=>(some (1,(Ak,(i:Int))))
 |x::k,i,Ak=>(if ((i:Int) < (a1.length:Int)) then (bif (x != (a1.getD (Int.toNat (i:Int)) default)) then (some (0,(false,(i:Int))))
 else (Jd L a0 a1 k (i+1) Ak)) else none)
theorem Ar9(L:Nat)(a0:List Int)(a1:List Int)(n:Nat)(hl:a0.length≤maxLen)(hn:a0.length < n):∀(Ak:Bool),I4 L a0 a1 n Ak 0=Jd L a0 a1 a0 0 Ak:=lQ (fun k i n=>∀(Ak:Bool),I4 L a0 a1 n Ak (i:Int)=Jd L a0 a1 k i Ak) hl hn (fun n i h Ak=>by simp only [I4,T5,Jd,F0 h,aN,aB,aC]) (fun n i x k h hx ih Ak=>by simp only [I4,T5,Jd,F1 h,Qu h,hx,Bd h hl,ih,aN,aB,aC])
def He(L:Nat)(a0:List Ag)(a1:List Ag):List Ag→Nat→Bool→Option (Nat×Bool×Int)
 | [],i,Ak=>(some (1,(Ak,(i:Int))))
 |x::k,i,Ak=>(if ((i:Int) < (a1.length:Int)) then (bif (!((x.Name == (a1.getD (Int.toNat (i:Int)) default).Name) && ((x.Type_ == (a1.getD (Int.toNat (i:Int)) default).Type_) && ((x.N == (a1.getD (Int.toNat (i:Int)) default).N) && true)))) then (some (0,(false,(i:Int))))
 else (He L a0 a1 k (i+1) Ak)) else none)
theorem An1(L:Nat)(a0:List Ag)(a1:List Ag)(n:Nat)(hl:a0.length≤maxLen)(hn:a0.length < n):∀(Ak:Bool),Hb L a0 a1 n Ak 0=He L a0 a1 a0 0 Ak:=lQ (fun k i n=>∀(Ak:Bool),Hb L a0 a1 n Ak (i:Int)=He L a0 a1 k i Ak) hl hn (fun n i h Ak=>by simp only [Hb,Qy,He,F0 h,aN,aB,aC]) (fun n i x k h hx ih Ak=>by simp only [Hb,Qy,He,F1 h,Qu h,hx,Bd h hl,ih,aN,aB,aC])
def Ih(L:Nat)(a0:List ByteArray)(a1:List ByteArray):List ByteArray→Nat→Bool→Option (Nat×Bool×Int)
 | [],i,Ak=>(some (1,(Ak,(i:Int))))
 |x::k,i,Ak=>(if ((i:Int) < (a1.length:Int)) then (bif (!(x.toList == (a1.getD (Int.toNat (i:Int)) default).toList)) then (some (0,(false,(i:Int))))
 else (Ih L a0 a1 k (i+1) Ak)) else none)
theorem Apm(L:Nat)(a0:List ByteArray)(a1:List ByteArray)(n:Nat)(hl:a0.length≤maxLen)(hn:a0.length < n):∀(Ak:Bool),Ib L a0 a1 n Ak 0=Ih L a0 a1 a0 0 Ak:=lQ (fun k i n=>∀(Ak:Bool),Ib L a0 a1 n Ak (i:Int)=Ih L a0 a1 k i Ak) hl hn (fun n i h Ak=>by simp only [Ib,Sn,Ih,F0 h,aN,aB,aC]) (fun n i x k h hx ih Ak=>by simp only [Ib,Sn,Ih,F1 h,Qu h,hx,Bd h hl,ih,aN,aB,aC])
def Gb(L:Nat)(a0:Ah)(a1:Ah):List F7→Nat→Bool→Option (Nat×Bool×Int)
 | [],i,Al=>(some (1,(Al,(i:Int))))
 |x::k,i,Al=>(if ((i:Int) < (a1.Shift.length:Int)) then (bif (!((x.At == (a1.Shift.getD (Int.toNat (i:Int)) default).At) && ((x.Units == (a1.Shift.getD (Int.toNat (i:Int)) default).Units) && true))) then (some (0,(false,(i:Int))))
 else (Gb L a0 a1 k (i+1) Al)) else none)
theorem Ak1(L:Nat)(a0:Ah)(a1:Ah)(n:Nat)(hl:a0.Shift.length≤maxLen)(hn:a0.Shift.length < n):∀(Al:Bool),F8 L a0 a1 n Al 0=Gb L a0 a1 a0.Shift 0 Al:=lQ (fun k i n=>∀(Al:Bool),F8 L a0 a1 n Al (i:Int)=Gb L a0 a1 k i Al) hl hn (fun n i h Al=>by simp only [F8,Oh,Gb,F0 h,aN,aB,aC]) (fun n i x k h hx ih Al=>by simp only [F8,Oh,Gb,F1 h,Qu h,hx,Bd h hl,ih,aN,aB,aC])
def Hd(L:Nat)(a0:List Ao)(a1:List Ao):List Ao→Nat→Bool→Option (Nat×Bool×Int)
 | [],i,Ak=>(some (1,(Ak,(i:Int))))
 |x::k,i,Ak=>(if ((i:Int) < (a1.length:Int)) then (bif (!((x.Name == (a1.getD (Int.toNat (i:Int)) default).Name) && ((x.Type_ == (a1.getD (Int.toNat (i:Int)) default).Type_) && true))) then (some (0,(false,(i:Int))))
 else (Hd L a0 a1 k (i+1) Ak)) else none)
theorem An0(L:Nat)(a0:List Ao)(a1:List Ao)(n:Nat)(hl:a0.length≤maxLen)(hn:a0.length < n):∀(Ak:Bool),Ha L a0 a1 n Ak 0=Hd L a0 a1 a0 0 Ak:=lQ (fun k i n=>∀(Ak:Bool),Ha L a0 a1 n Ak (i:Int)=Hd L a0 a1 k i Ak) hl hn (fun n i h Ak=>by simp only [Ha,Qx,Hd,F0 h,aN,aB,aC]) (fun n i x k h hx ih Ak=>by simp only [Ha,Qx,Hd,F1 h,Qu h,hx,Bd h hl,ih,aN,aB,aC])
def Kw(Em:Ab→Ab→Option Bool)(Eu:(List Ab)→(List Ab)→Option Bool)(L:Nat)(a0:List Ab)(a1:List Ab):List Ab→Nat→Bool→Option (Nat×Bool×Int)
 | [],i,Ak=>(some (1,(Ak,(i:Int))))
 |x::k,i,Ak=>(if ((i:Int) < (a1.length:Int)) then (Option.bind (Em x (a1.getD (Int.toNat (i:Int)) default)) fun r1=>
 (bif (!r1) then (some (0,(false,(i:Int))))
 else (Kw Em Eu L a0 a1 k (i+1) Ak))) else none)
theorem Aub(Em:Ab→Ab→Option Bool)(Eu:(List Ab)→(List Ab)→Option Bool)(L:Nat)(a0:List Ab)(a1:List Ab)(n:Nat)(hl:a0.length≤maxLen)(hn:a0.length < n):∀(Ak:Bool),Kk Em Eu L a0 a1 n Ak 0=Kw Em Eu L a0 a1 a0 0 Ak:=lQ (fun k i n=>∀(Ak:Bool),Kk Em Eu L a0 a1 n Ak (i:Int)=Kw Em Eu L a0 a1 k i Ak) hl hn (fun n i h Ak=>by simp only [Kk,V1,Kw,F0 h,aN,aB,aC]) (fun n i x k h hx ih Ak=>by simp only [Kk,V1,Kw,F1 h,Qu h,hx,Bd h hl,ih,aN,aB,aC])
def Ig(L:Nat)(a0:List Ab)(a1:List Ab):List Ab→Nat→Bool→Option (Nat×Bool×Int)
 | [],i,Ak=>(some (1,(Ak,(i:Int))))
 |x::k,i,Ak=>(if ((i:Int) < (a1.length:Int)) then (Option.bind (D4 L x (a1.getD (Int.toNat (i:Int)) default)) fun r1=>
 (bif (!r1) then (some (0,(false,(i:Int))))
 else (Ig L a0 a1 k (i+1) Ak))) else none)
theorem Apl(L:Nat)(a0:List Ab)(a1:List Ab)(n:Nat)(hl:a0.length≤maxLen)(hn:a0.length < n):∀(Ak:Bool),Ia L a0 a1 n Ak 0=Ig L a0 a1 a0 0 Ak:=lQ (fun k i n=>∀(Ak:Bool),Ia L a0 a1 n Ak (i:Int)=Ig L a0 a1 k i Ak) hl hn (fun n i h Ak=>by simp only [Ia,Sm,Ig,F0 h,aN,aB,aC]) (fun n i x k h hx ih Ak=>by simp only [Ia,Sm,Ig,F1 h,Qu h,hx,Bd h hl,ih,aN,aB,aC])
def Qn(Gv:(List Ad)→(List Ad)→Option Bool)(L:Nat)(a0:List Ad)(a1:List Ad):List Ad→Nat→Bool→Option (Nat×Bool×Int)
 | [],i,Ak=>(some (1,(Ak,(i:Int))))
 |x::k,i,Ak=>(if ((i:Int) < (a1.length:Int)) then ((fun b1=>
 ((fun b2=>
 ((fun b3=>
 (Option.bind (bif b3 then (some true)
 else (Option.bind (D4 L (x.E) ((a1.getD (Int.toNat (i:Int)) default).E)) fun r5=>
 (some (!r5)))) fun b4=>
 (Option.bind (bif b4 then (some true)
 else (Option.bind (D4 L (x.F) ((a1.getD (Int.toNat (i:Int)) default).F)) fun r7=>
 (some (!r7)))) fun b6=>
 (bif b6 then (some (0,(false,(i:Int))))
 else (Option.bind (S1 L (x.Args) ((a1.getD (Int.toNat (i:Int)) default).Args)) fun r8=>
 (Option.bind (bif (!r8) then (some true)
 else (Option.bind (Qg L (x.Dist) ((a1.getD (Int.toNat (i:Int)) default).Dist)) fun r10=>
 (some (!r10)))) fun b9=>
 (Option.bind (bif b9 then (some true)
 else (Option.bind (Gv (x.Body) ((a1.getD (Int.toNat (i:Int)) default).Body)) fun r12=>
 (some (!r12)))) fun b11=>
 (Option.bind (bif b11 then (some true)
 else (Option.bind (Gv (x.Else) ((a1.getD (Int.toNat (i:Int)) default).Else)) fun r14=>
 (some (!r14)))) fun b13=>
 (bif b13 then (some (0,(false,(i:Int))))
 else (Qn Gv L a0 a1 k (i+1) Ak)))))))))) (bif b2 then true
 else (!(x.Flag == (a1.getD (Int.toNat (i:Int)) default).Flag))))) (bif b1 then true
 else (!((x.Of).toList == ((a1.getD (Int.toNat (i:Int)) default).Of).toList))))) (bif (x.Op != (a1.getD (Int.toNat (i:Int)) default).Op) then true
 else (!((x.Name).toList == ((a1.getD (Int.toNat (i:Int)) default).Name).toList)))) else none)
theorem A27(Gv:(List Ad)→(List Ad)→Option Bool)(L:Nat)(a0:List Ad)(a1:List Ad)(n:Nat)(hl:a0.length≤maxLen)(hn:a0.length < n):∀(Ak:Bool),Qi Gv L a0 a1 n Ak 0=Qn Gv L a0 a1 a0 0 Ak:=lQ (fun k i n=>∀(Ak:Bool),Qi Gv L a0 a1 n Ak (i:Int)=Qn Gv L a0 a1 k i Ak) hl hn (fun n i h Ak=>by simp only [Qi,Abk,Qn,F0 h,aN,aB,aC]) (fun n i x k h hx ih Ak=>by simp only [Qi,Abk,Qn,F1 h,Qu h,hx,Bd h hl,ih,aN,aB,aC])
def Jk(L:Nat)(a0:List Int)(a1:List Int):List Int→Nat→Bool→Option (Nat×Bool×Int)
 | [],i,Ak=>(some (1,(Ak,(i:Int))))
 |x::k,i,Ak=>(if ((i:Int) < (a1.length:Int)) then (bif (x != (a1.getD (Int.toNat (i:Int)) default)) then (some (0,(false,(i:Int))))
 else (Jk L a0 a1 k (i+1) Ak)) else none)
theorem Asg(L:Nat)(a0:List Int)(a1:List Int)(n:Nat)(hl:a0.length≤maxLen)(hn:a0.length < n):∀(Ak:Bool),Jb L a0 a1 n Ak 0=Jk L a0 a1 a0 0 Ak:=lQ (fun k i n=>∀(Ak:Bool),Jb L a0 a1 n Ak (i:Int)=Jk L a0 a1 k i Ak) hl hn (fun n i h Ak=>by simp only [Jb,Uc,Jk,F0 h,aN,aB,aC]) (fun n i x k h hx ih Ak=>by simp only [Jb,Uc,Jk,F1 h,Qu h,hx,Bd h hl,ih,aN,aB,aC])
def Kx(L:Nat)(a0:Az)(a1:Az):List Ay→Nat→Bool→Option (Nat×Bool×Int)
 | [],i,Al=>(some (1,(Al,(i:Int))))
 |x::k,i,Al=>(if ((i:Int) < (a1.Terms.length:Int)) then (bif (!((x.Coef == (a1.Terms.getD (Int.toNat (i:Int)) default).Coef) && ((x.What == (a1.Terms.getD (Int.toNat (i:Int)) default).What) && ((x.Name == (a1.Terms.getD (Int.toNat (i:Int)) default).Name) && true)))) then (some (0,(false,(i:Int))))
 else (Kx L a0 a1 k (i+1) Al)) else none)
theorem Auc(L:Nat)(a0:Az)(a1:Az)(n:Nat)(hl:a0.Terms.length≤maxLen)(hn:a0.Terms.length < n):∀(Al:Bool),Kl L a0 a1 n Al 0=Kx L a0 a1 a0.Terms 0 Al:=lQ (fun k i n=>∀(Al:Bool),Kl L a0 a1 n Al (i:Int)=Kx L a0 a1 k i Al) hl hn (fun n i h Al=>by simp only [Kl,V2,Kx,F0 h,aN,aB,aC]) (fun n i x k h hx ih Al=>by simp only [Kl,V2,Kx,F1 h,Qu h,hx,Bd h hl,ih,aN,aB,aC])
def Je(L:Nat)(a0:Aa)(a1:Aa):List Ah→Nat→Bool→Option (Nat×Bool×Int)
 | [],i,Al=>(some (1,(Al,(i:Int))))
 |x::k,i,Al=>(if ((i:Int) < (a1.Resources.length:Int)) then (Option.bind (Kg L (⟨x.Name,x.Units,x.Shift,x.Cycle,(⟨(x.Fault).Stream,((x.Fault).Up),((x.Fault).Down)⟩:Jq)⟩:Ah) (⟨(a1.Resources.getD (Int.toNat (i:Int)) default).Name,(a1.Resources.getD (Int.toNat (i:Int)) default).Units,(a1.Resources.getD (Int.toNat (i:Int)) default).Shift,(a1.Resources.getD (Int.toNat (i:Int)) default).Cycle,(⟨((a1.Resources.getD (Int.toNat (i:Int)) default).Fault).Stream,(((a1.Resources.getD (Int.toNat (i:Int)) default).Fault).Up),(((a1.Resources.getD (Int.toNat (i:Int)) default).Fault).Down)⟩:Jq)⟩:Ah)) fun r18=>
 (bif (!r18) then (some (0,(false,(i:Int))))
 else (Je L a0 a1 k (i+1) Al))) else none)
theorem Asa(L:Nat)(a0:Aa)(a1:Aa)(n:Nat)(hl:a0.Resources.length≤maxLen)(hn:a0.Resources.length < n):∀(Al:Bool),I5 L a0 a1 n Al 0=Je L a0 a1 a0.Resources 0 Al:=lQ (fun k i n=>∀(Al:Bool),I5 L a0 a1 n Al (i:Int)=Je L a0 a1 k i Al) hl hn (fun n i h Al=>by simp only [I5,T6,Je,F0 h,aN,aB,aC]) (fun n i x k h hx ih Al=>by simp only [I5,T6,Je,F1 h,Qu h,hx,Bd h hl,ih,aN,aB,aC])
def Jf(L:Nat)(a0:Aa)(a1:Aa):List Ar→Nat→Bool→Option (Nat×Bool×Int)
 | [],i,Bl=>(some (1,(Bl,(i:Int))))
 |x::k,i,Bl=>(if ((i:Int) < (a1.Stores.length:Int)) then (bif (!((x.Name == (a1.Stores.getD (Int.toNat (i:Int)) default).Name) && ((x.Room == (a1.Stores.getD (Int.toNat (i:Int)) default).Room) && ((x.Policy == (a1.Stores.getD (Int.toNat (i:Int)) default).Policy) && true)))) then (some (0,(false,(i:Int))))
 else (Jf L a0 a1 k (i+1) Bl)) else none)
theorem Asb(L:Nat)(a0:Aa)(a1:Aa)(n:Nat)(hl:a0.Stores.length≤maxLen)(hn:a0.Stores.length < n):∀(Bl:Bool),I6 L a0 a1 n Bl 0=Jf L a0 a1 a0.Stores 0 Bl:=lQ (fun k i n=>∀(Bl:Bool),I6 L a0 a1 n Bl (i:Int)=Jf L a0 a1 k i Bl) hl hn (fun n i h Bl=>by simp only [I6,T7,Jf,F0 h,aN,aB,aC]) (fun n i x k h hx ih Bl=>by simp only [I6,T7,Jf,F1 h,Qu h,hx,Bd h hl,ih,aN,aB,aC])
def Jg(L:Nat)(a0:Aa)(a1:Aa):List Aw→Nat→Bool→Option (Nat×Bool×Int)
 | [],i,E8=>(some (1,(E8,(i:Int))))
 |x::k,i,E8=>(if ((i:Int) < (a1.Belts.length:Int)) then (bif (!((x.Name == (a1.Belts.getD (Int.toNat (i:Int)) default).Name) && ((x.Length == (a1.Belts.getD (Int.toNat (i:Int)) default).Length) && ((x.Step == (a1.Belts.getD (Int.toNat (i:Int)) default).Step) && true)))) then (some (0,(false,(i:Int))))
 else (Jg L a0 a1 k (i+1) E8)) else none)
theorem Asc(L:Nat)(a0:Aa)(a1:Aa)(n:Nat)(hl:a0.Belts.length≤maxLen)(hn:a0.Belts.length < n):∀(E8:Bool),I7 L a0 a1 n E8 0=Jg L a0 a1 a0.Belts 0 E8:=lQ (fun k i n=>∀(E8:Bool),I7 L a0 a1 n E8 (i:Int)=Jg L a0 a1 k i E8) hl hn (fun n i h E8=>by simp only [I7,T8,Jg,F0 h,aN,aB,aC]) (fun n i x k h hx ih E8=>by simp only [I7,T8,Jg,F1 h,Qu h,hx,Bd h hl,ih,aN,aB,aC])
def Jh(L:Nat)(a0:Aa)(a1:Aa):List Ap→Nat→Bool→Option (Nat×Bool×Int)
 | [],i,Iw=>(some (1,(Iw,(i:Int))))
 |x::k,i,Iw=>(if ((i:Int) < (a1.Routines.length:Int)) then (Option.bind (bif (!((x.Name).toList == ((a1.Routines.getD (Int.toNat (i:Int)) default).Name).toList)) then (some true)
 else (Option.bind (Kf L (x.Params) ((a1.Routines.getD (Int.toNat (i:Int)) default).Params)) fun r23=>
 (some (!r23)))) fun b22=>
 (Option.bind (bif b22 then (some true)
 else (Option.bind (Kf L (x.Locals) ((a1.Routines.getD (Int.toNat (i:Int)) default).Locals)) fun r25=>
 (some (!r25)))) fun b24=>
 (Option.bind (bif b24 then (some true)
 else (Option.bind (Lx L (x.Body) ((a1.Routines.getD (Int.toNat (i:Int)) default).Body)) fun r27=>
 (some (!r27)))) fun b26=>
 (bif b26 then (some (0,(false,(i:Int))))
 else (Jh L a0 a1 k (i+1) Iw))))) else none)
theorem Asd(L:Nat)(a0:Aa)(a1:Aa)(n:Nat)(hl:a0.Routines.length≤maxLen)(hn:a0.Routines.length < n):∀(Iw:Bool),I8 L a0 a1 n Iw 0=Jh L a0 a1 a0.Routines 0 Iw:=lQ (fun k i n=>∀(Iw:Bool),I8 L a0 a1 n Iw (i:Int)=Jh L a0 a1 k i Iw) hl hn (fun n i h Iw=>by simp only [I8,T9,Jh,F0 h,aN,aB,aC]) (fun n i x k h hx ih Iw=>by simp only [I8,T9,Jh,F1 h,Qu h,hx,Bd h hl,ih,aN,aB,aC])
def Ji(L:Nat)(a0:Aa)(a1:Aa):List Bt→Nat→Bool→Option (Nat×Bool×Int)
 | [],i,Lf=>(some (1,(Lf,(i:Int))))
 |x::k,i,Lf=>(if ((i:Int) < (a1.Starts.length:Int)) then ((fun b29=>
 ((fun b30=>
 ((fun b31=>
 (Option.bind (bif b31 then (some true)
 else (Option.bind (Vb L (x.Args) ((a1.Starts.getD (Int.toNat (i:Int)) default).Args)) fun r33=>
 (some (!r33)))) fun b32=>
 (bif b32 then (some (0,(false,(i:Int))))
 else (Ji L a0 a1 k (i+1) Lf)))) (bif b30 then true
 else (x.Until != (a1.Starts.getD (Int.toNat (i:Int)) default).Until)))) (bif b29 then true
 else (x.Every != (a1.Starts.getD (Int.toNat (i:Int)) default).Every)))) (bif (!((x.Routine).toList == ((a1.Starts.getD (Int.toNat (i:Int)) default).Routine).toList)) then true
 else (x.At != (a1.Starts.getD (Int.toNat (i:Int)) default).At))) else none)
theorem Ase(L:Nat)(a0:Aa)(a1:Aa)(n:Nat)(hl:a0.Starts.length≤maxLen)(hn:a0.Starts.length < n):∀(Lf:Bool),I9 L a0 a1 n Lf 0=Ji L a0 a1 a0.Starts 0 Lf:=lQ (fun k i n=>∀(Lf:Bool),I9 L a0 a1 n Lf (i:Int)=Ji L a0 a1 k i Lf) hl hn (fun n i h Lf=>by simp only [I9,Ua,Ji,F0 h,aN,aB,aC]) (fun n i x k h hx ih Lf=>by simp only [I9,Ua,Ji,F1 h,Qu h,hx,Bd h hl,ih,aN,aB,aC])
def Jj(L:Nat)(a0:Aa)(a1:Aa):List Az→Nat→Bool→Option (Nat×Bool×Int)
 | [],i,Lg=>(some (1,(Lg,(i:Int))))
 |x::k,i,Lg=>(if ((i:Int) < (a1.Laws.length:Int)) then (Option.bind (Xq L x (a1.Laws.getD (Int.toNat (i:Int)) default)) fun r35=>
 (bif (!r35) then (some (0,(false,(i:Int))))
 else (Jj L a0 a1 k (i+1) Lg))) else none)
theorem Asf(L:Nat)(a0:Aa)(a1:Aa)(n:Nat)(hl:a0.Laws.length≤maxLen)(hn:a0.Laws.length < n):∀(Lg:Bool),Ja L a0 a1 n Lg 0=Jj L a0 a1 a0.Laws 0 Lg:=lQ (fun k i n=>∀(Lg:Bool),Ja L a0 a1 n Lg (i:Int)=Jj L a0 a1 k i Lg) hl hn (fun n i h Lg=>by simp only [Ja,Ub,Jj,F0 h,aN,aB,aC]) (fun n i x k h hx ih Lg=>by simp only [Ja,Ub,Jj,F1 h,Qu h,hx,Bd h hl,ih,aN,aB,aC])
def Qq(L:Nat)(a0:Ac)(a1:Ac):List Aa→Nat→Bool→Option (Nat×Bool×Int)
 | [],i,Al=>(some (1,(Al,(i:Int))))
 |x::k,i,Al=>(if ((i:Int) < (a1.Sites.length:Int)) then (Option.bind (Va L x (a1.Sites.getD (Int.toNat (i:Int)) default)) fun r5=>
 (bif (!r5) then (some (0,(false,(i:Int))))
 else (Qq L a0 a1 k (i+1) Al))) else none)
theorem A3a(L:Nat)(a0:Ac)(a1:Ac)(n:Nat)(hl:a0.Sites.length≤maxLen)(hn:a0.Sites.length < n):∀(Al:Bool),Qj L a0 a1 n Al 0=Qq L a0 a1 a0.Sites 0 Al:=lQ (fun k i n=>∀(Al:Bool),Qj L a0 a1 n Al (i:Int)=Qq L a0 a1 k i Al) hl hn (fun n i h Al=>by simp only [Qj,Abm,Qq,F0 h,aN,aB,aC]) (fun n i x k h hx ih Al=>by simp only [Qj,Abm,Qq,F1 h,Qu h,hx,Bd h hl,ih,aN,aB,aC])
def Qr(L:Nat)(a0:Ac)(a1:Ac):List Bj→Nat→Bool→Option (Nat×Bool×Int)
 | [],i,Bl=>(some (1,(Bl,(i:Int))))
 |x::k,i,Bl=>(if ((i:Int) < (a1.Links.length:Int)) then (bif (!((x.From == (a1.Links.getD (Int.toNat (i:Int)) default).From) && ((x.To == (a1.Links.getD (Int.toNat (i:Int)) default).To) && ((x.Delay == (a1.Links.getD (Int.toNat (i:Int)) default).Delay) && true)))) then (some (0,(false,(i:Int))))
 else (Qr L a0 a1 k (i+1) Bl)) else none)
theorem A3b(L:Nat)(a0:Ac)(a1:Ac)(n:Nat)(hl:a0.Links.length≤maxLen)(hn:a0.Links.length < n):∀(Bl:Bool),Qk L a0 a1 n Bl 0=Qr L a0 a1 a0.Links 0 Bl:=lQ (fun k i n=>∀(Bl:Bool),Qk L a0 a1 n Bl (i:Int)=Qr L a0 a1 k i Bl) hl hn (fun n i h Bl=>by simp only [Qk,Abn,Qr,F0 h,aN,aB,aC]) (fun n i x k h hx ih Bl=>by simp only [Qk,Abn,Qr,F1 h,Qu h,hx,Bd h hl,ih,aN,aB,aC])
def Gn(L:Nat)(a0:Ac):List Ag→Nat→List Ae→Option (Nat×List Ae×Int)
 | [],i,Aj=>(some (0,(Aj,(i:Int))))
 |x::k,i,Aj=>(if ((Aj.length+ [(⟨x.Name,x.N⟩:Ae)].length)*24≤140737488355328) then (if (Aj.length+ [(⟨x.Name,x.N⟩:Ae)].length≤maxLen) then (Gn L a0 k (i+1) (Aj++ [(⟨x.Name,x.N⟩:Ae)])) else none) else none)
theorem Apn(L:Nat)(a0:Ac)(n:Nat)(hl:a0.Params.length≤maxLen)(hn:a0.Params.length < n):∀(Aj:List Ae),Ic L a0 n Aj 0=Gn L a0 a0.Params 0 Aj:=lQ (fun k i n=>∀(Aj:List Ae),Ic L a0 n Aj (i:Int)=Gn L a0 k i Aj) hl hn (fun n i h Aj=>by simp only [Ic,So,Gn,F0 h,aN,aB,aC]) (fun n i x k h hx ih Aj=>by simp only [Ic,So,Gn,F1 h,Qu h,hx,Bd h hl,ih,aN,aB,aC])
def El(L:Nat)(a1:List Ae)(Aj:Bool)(r7:List Ae)(Ai:Int)(a0:Ac)(r4:Ac×Int):List Ae→Nat→Int→Option (Nat×Int×Int)
 | [],i,Ld=>(some (0,(Ld,(i:Int))))
 |x::k,i,Ld=>(if (0≤Ai) then (if (Ai < (a0.Params.length:Int)) then (bif ((x.Name).toList == ((a0.Params.getD (Int.toNat Ai) default).Name).toList) then (El L a1 Aj r7 Ai a0 r4 k (i+1) (x.N))
 else (El L a1 Aj r7 Ai a0 r4 k (i+1) Ld)) else none) else none)
theorem Ak0(L:Nat)(a1:List Ae)(Aj:Bool)(r7:List Ae)(Ai:Int)(a0:Ac)(r4:Ac×Int)(n:Nat)(hl:a1.length≤maxLen)(hn:a1.length < n):∀(Ld:Int),Ek L a1 Aj r7 Ai a0 r4 n Ld 0=El L a1 Aj r7 Ai a0 r4 a1 0 Ld:=lQ (fun k i n=>∀(Ld:Int),Ek L a1 Aj r7 Ai a0 r4 n Ld (i:Int)=El L a1 Aj r7 Ai a0 r4 k i Ld) hl hn (fun n i h Ld=>by simp only [Ek,Og,El,F0 h,aN,aB,aC]) (fun n i x k h hx ih Ld=>by simp only [Ek,Og,El,F1 h,Qu h,hx,Bd h hl,ih,aN,aB,aC])
def Ga(L:Nat)(a1:List Ae)(r7:List Ae)(a0:Ac)(r4:Ac×Int):List Ae→Nat→Bool→Option (Nat×Bool×Int)
 | [],i,Aj=>(some (1,(Aj,(i:Int))))
 |x::k,i,Aj=>(if ((i:Int) < (a0.Params.length:Int)) then (Option.bind (Ek L a1 Aj r7 (i:Int) a0 r4 L ((a0.Params.getD (Int.toNat (i:Int)) default).N) 0) fun o8=>
 (Aw9 o8.1 [(if ((i:Int) < (a0.Params.length:Int)) then (bif (!((x.Name).toList == ((a0.Params.getD (Int.toNat (i:Int)) default).Name).toList)) then (some (0,(false,(i:Int))))
 else (bif (x.N != o8.2.1) then (some (0,(false,(i:Int))))
 else (Ga L a1 r7 a0 r4 k (i+1) Aj))) else none)])) else none)
theorem Akz(L:Nat)(a1:List Ae)(r7:List Ae)(a0:Ac)(r4:Ac×Int)(n:Nat)(hl:r7.length≤maxLen)(hn:r7.length < n):∀(Aj:Bool),Ej L a1 r7 a0 r4 n Aj 0=Ga L a1 r7 a0 r4 r7 0 Aj:=lQ (fun k i n=>∀(Aj:Bool),Ej L a1 r7 a0 r4 n Aj (i:Int)=Ga L a1 r7 a0 r4 k i Aj) hl hn (fun n i h Aj=>by simp only [Ej,Tx,Oj,Kb,Ga,F0 h,aN,aB,aC]) (fun n i x k h hx ih Aj=>by simp only [Ej,Tx,Oj,Kb,Ga,F1 h,Qu h,hx,Bd h hl,ih,aN,aB,aC])
end Go.Proofs.YtofcpkmnhmnfcaaGreatR.Ev
