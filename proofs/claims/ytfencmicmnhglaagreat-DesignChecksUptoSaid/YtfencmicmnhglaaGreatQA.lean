import Derived.Test.YtfencmicmnhglaaGreatG1
import Derived.Test.YtfencmicmnhglaaGreatPa
import Derived.Test.YtfencmicmnhglaaGreatG2
import Derived.Test.YtfencmicmnhglaaGreatG3
import Derived.Test.YtfencmicmnhglaaGreatG4
import Derived.Test.YtfencmicmnhglaaGreatG5
import Derived.Test.YtfencmicmnhglaaGreatG6
import Derived.Test.YtfencmicmnhglaaGreatG7
import Derived.Test.YtfencmicmnhglaaGreatG8
import Derived.Test.YtfencmicmnhglaaGreatG9
import Derived.Test.YtfencmicmnhglaaGreatG10
import Derived.Test.YtfencmicmnhglaaGreatG11
import Derived.Test.YtfencmicmnhglaaGreatG12
import Derived.Test.YtfencmicmnhglaaGreatG13
import Derived.Test.YtfencmicmnhglaaGreatG14
namespace Go.Proofs.YtfencmicmnhglaaGreat.Ev
open Go An
set_option maxRecDepth 100000
set_option maxHeartbeats 4000000
set_option linter.unusedVariables false
set_option linter.unusedSimpArgs false
set_option linter.unnecessarySimpa false
theorem aC:(∀i:Nat,(0≤(i:Int))=True)∧(∀i:Nat,Int.toNat (i:Int)=i)∧(∀ {α :Type} (a b: α),cond true a b=a)∧(∀ {α :Type} (a b: α),cond false a b=b)∧(∀ {α :Type} (a b: α),(if True then a else b)=a)∧(∀h:Decidable True,@decide True h=true)∧(∀x:Ab,Ab.mk x.Op x.Name x.N x.Kids=x)∧(∀x:Ab,Ab.cp x=x)∧(∀x:Ac,Ac.mk x.Op x.Name x.Of x.E x.F x.Args x.Dist x.Flag x.Body x.Else=x)∧(∀x:Ac,Ac.cp x=x):=⟨nn,toN,fun _ _=>rfl,fun _ _=>rfl,fun _ _=>if_true ..,decide_true,Ab.eta,Ab.cp_eq,Ac.eta,Ac.cp_eq⟩
def P1(L:Nat)(a0:List Ah):List Ah→Nat→Bool→Option (Nat×Bool×Int)
 | [],i,Ag=>(some (1,(Ag,(i:Int))))
 |x::k,i,Ag=>(bif (decide (((x.Levels).length:Int) > 300)) then (some (0,(false,(i:Int))))
 else (P1 L a0 k (i+1) Ag))
theorem A2o(L:Nat)(a0:List Ah)(n:Nat)(hl:a0.length≤maxLen)(hn:a0.length < n):∀(Ag:Bool),Ox L a0 n Ag 0=P1 L a0 a0 0 Ag:=lQ (fun k i n=>∀(Ag:Bool),Ox L a0 n Ag (i:Int)=P1 L a0 k i Ag) hl hn (fun n i h Ag=>by simp only [Ox,Abt,P1,D1 h,aN,aB,aC]) (fun n i x k h hx ih Ag=>by simp only [Ox,Abt,P1,Dv h,Ip h,hx,A9 h hl,ih,aN,aB,aC])
def P4(Je:Ab→Option Int)(L:Nat)(a0:Ab):List Ab→Nat→Int→Option (Nat×Int×Int)
 | [],i,Ag=>(some (0,(Ag,(i:Int))))
 |x::k,i,Ag=>(Option.bind (Je x) fun r1=>
 (P4 Je L a0 k (i+1) (Cq (Ag+r1))))
theorem A2r(Je:Ab→Option Int)(L:Nat)(a0:Ab)(n:Nat)(hl:a0.Kids.length≤maxLen)(hn:a0.Kids.length < n):∀(Ag:Int),O1 Je L a0 n Ag 0=P4 Je L a0 a0.Kids 0 Ag:=lQ (fun k i n=>∀(Ag:Int),O1 Je L a0 n Ag (i:Int)=P4 Je L a0 k i Ag) hl hn (fun n i h Ag=>by simp only [O1,Abw,P4,D1 h,aN,aB,aC]) (fun n i x k h hx ih Ag=>by simp only [O1,Abw,P4,Dv h,Ip h,hx,A9 h hl,ih,aN,aB,aC])
def Ss(C4:(List Ac)→Option Int)(L:Nat)(a0:List Ac)(Ai:Int):List Ab→Nat→Int→Option (Nat×Int×Int)
 | [],i,Gk=>(some (0,(Gk,(i:Int))))
 |x::k,i,Gk=>(Option.bind (Gx L x) fun r5=>
 (Ss C4 L a0 Ai k (i+1) (Cq (Gk+r5))))
theorem A6q(C4:(List Ac)→Option Int)(L:Nat)(a0:List Ac)(Ai:Int)(n:Nat)(hl:((a0.getD (Int.toNat Ai) default).Args).length≤maxLen)(hn:((a0.getD (Int.toNat Ai) default).Args).length < n):∀(Gk:Int),N9 C4 L a0 Ai n Gk 0=Ss C4 L a0 Ai ((a0.getD (Int.toNat Ai) default).Args) 0 Gk:=lQ (fun k i n=>∀(Gk:Int),N9 C4 L a0 Ai n Gk (i:Int)=Ss C4 L a0 Ai k i Gk) hl hn (fun n i h Gk=>by simp only [N9,Af5,Ss,D1 h,aN,aB,aC]) (fun n i x k h hx ih Gk=>by simp only [N9,Af5,Ss,Dv h,Ip h,hx,A9 h hl,ih,aN,aB,aC])
def Sr(C4:(List Ac)→Option Int)(L:Nat)(a0:List Ac):List Ac→Nat→Int→Option (Nat×Int×Int)
 | [],i,Aj=>(some (0,(Aj,(i:Int))))
 |x::k,i,Aj=>(Option.bind (Gx L (x.E)) fun r1=>
 (Option.bind (Gx L (x.F)) fun r2=>
 (Option.bind (C4 (x.Body)) fun r3=>
 (Option.bind (C4 (x.Else)) fun r4=>
 (Option.bind (N9 C4 L a0 (i:Int) L (Cq ((Cq ((Cq ((Cq ((Cq ((Cq ((Cq (Aj+1))+r1))+r2))+(((x.Dist).Values).length:Int)))+(((x.Dist).Weights).length:Int)))+r3))+r4)) 0) fun o6=>
 (As6 o6.1 [(Sr C4 L a0 k (i+1) o6.2.1)]))))))
theorem A6p(C4:(List Ac)→Option Int)(L:Nat)(a0:List Ac)(n:Nat)(hl:a0.length≤maxLen)(hn:a0.length < n):∀(Aj:Int),N8 C4 L a0 n Aj 0=Sr C4 L a0 a0 0 Aj:=lQ (fun k i n=>∀(Aj:Int),N8 C4 L a0 n Aj (i:Int)=Sr C4 L a0 k i Aj) hl hn (fun n i h Aj=>by simp only [N8,Amd,Agl,m9,Sr,D1 h,aN,aB,aC]) (fun n i x k h hx ih Aj=>by simp only [N8,Amd,Agl,m9,Sr,Dv h,Ip h,hx,A9 h hl,ih,aN,aB,aC])
def Sp(L:Nat)(a0:Ad):List Aa→Nat→Int→Option (Nat×Int×Int)
 | [],i,Ag=>(some (0,(Ag,(i:Int))))
 |x::k,i,Ag=>(Option.bind (N6 L (i:Int) a0 L Ag 0) fun o2=>
 (As6 o2.1 [(Sp L a0 k (i+1) o2.2.1)]))
theorem A6m(L:Nat)(a0:Ad)(n:Nat)(hl:a0.Sites.length≤maxLen)(hn:a0.Sites.length < n):∀(Ag:Int),N5 L a0 n Ag 0=Sp L a0 a0.Sites 0 Ag:=lQ (fun k i n=>∀(Ag:Int),N5 L a0 n Ag (i:Int)=Sp L a0 k i Ag) hl hn (fun n i h Ag=>by simp only [N5,Amc,Agj,m5,Sp,D1 h,aN,aB,aC]) (fun n i x k h hx ih Ag=>by simp only [N5,Amc,Agj,m5,Sp,Dv h,Ip h,hx,A9 h hl,ih,aN,aB,aC])
def Ee(L:Nat)(a0:Af):List Cx→Nat→Int→Option (Nat×Int×Int)
 | [],i,Ao=>(some (1,(Ao,(i:Int))))
 |x::k,i,Ao=>(Option.bind (Bn L (x.At) 0 (Cq (a0.Cycle - 1))) fun r2=>
 (bif (!r2) then (bif (!r2) then (some (0,(2,(i:Int))))
 else (bif (decide ((i:Int) > 0)) then (if (0≤(Cq ((i:Int) - 1))) then (if ((Cq ((i:Int) - 1)) < (a0.Shift.length:Int)) then (bif (decide (x.At≤(a0.Shift.getD (Int.toNat (Cq ((i:Int) - 1))) default).At)) then (some (0,(12,(i:Int))))
 else (Ee L a0 k (i+1) Ao)) else none) else none)
 else (Ee L a0 k (i+1) Ao)))
 else (Option.bind (Bn L (x.Units) 0 1000) fun r3=>
 (bif (!r3) then (some (0,(2,(i:Int))))
 else (bif (decide ((i:Int) > 0)) then (if (0≤(Cq ((i:Int) - 1))) then (if ((Cq ((i:Int) - 1)) < (a0.Shift.length:Int)) then (bif (decide (x.At≤(a0.Shift.getD (Int.toNat (Cq ((i:Int) - 1))) default).At)) then (some (0,(12,(i:Int))))
 else (Ee L a0 k (i+1) Ao)) else none) else none)
 else (Ee L a0 k (i+1) Ao))))))
theorem Ask(L:Nat)(a0:Af)(n:Nat)(hl:a0.Shift.length≤maxLen)(hn:a0.Shift.length < n):∀(Ao:Int),H1 L a0 n Ao 0=Ee L a0 a0.Shift 0 Ao:=lQ (fun k i n=>∀(Ao:Int),H1 L a0 n Ao (i:Int)=Ee L a0 k i Ao) hl hn (fun n i h Ao=>by simp only [H1,S8,Ee,D1 h,aN,aB,aC]) (fun n i x k h hx ih Ao=>by simp only [H1,S8,Ee,Dv h,Ip h,hx,A9 h hl,ih,aN,aB,aC])
def Ha(L:Nat)(a0:List Int)(a1:List Int):List Int→Nat→Bool→Option (Nat×Bool×Int)
 | [],i,Aj=>(some (1,(Aj,(i:Int))))
 |x::k,i,Aj=>(if ((i:Int) < (a1.length:Int)) then (bif (x != (a1.getD (Int.toNat (i:Int)) default)) then (some (0,(false,(i:Int))))
 else (Ha L a0 a1 k (i+1) Aj)) else none)
theorem Apv(L:Nat)(a0:List Int)(a1:List Int)(n:Nat)(hl:a0.length≤maxLen)(hn:a0.length < n):∀(Aj:Bool),Gz L a0 a1 n Aj 0=Ha L a0 a1 a0 0 Aj:=lQ (fun k i n=>∀(Aj:Bool),Gz L a0 a1 n Aj (i:Int)=Ha L a0 a1 k i Aj) hl hn (fun n i h Aj=>by simp only [Gz,Qg,Ha,D1 h,aN,aB,aC]) (fun n i x k h hx ih Aj=>by simp only [Gz,Qg,Ha,Dv h,Ip h,hx,A9 h hl,ih,aN,aB,aC])
def Ey(L:Nat)(a0:List ByteArray)(a1:ByteArray):List ByteArray→Nat→Int→Option (Nat×Int×Int)
 | [],i,Aj=>(some (1,(Aj,(i:Int))))
 |x::k,i,Aj=>(bif (a1.toList == x.toList) then (some (0,((i:Int),(i:Int))))
 else (Ey L a0 a1 k (i+1) Aj))
theorem Akp(L:Nat)(a0:List ByteArray)(a1:ByteArray)(n:Nat)(hl:a0.length≤maxLen)(hn:a0.length < n):∀(Aj:Int),Es L a0 a1 n Aj 0=Ey L a0 a1 a0 0 Aj:=lQ (fun k i n=>∀(Aj:Int),Es L a0 a1 n Aj (i:Int)=Ey L a0 a1 k i Aj) hl hn (fun n i h Aj=>by simp only [Es,Ll,Ey,D1 h,aN,aB,aC]) (fun n i x k h hx ih Aj=>by simp only [Es,Ll,Ey,Dv h,Ip h,hx,A9 h hl,ih,aN,aB,aC])
def K7(L:Nat)(p1_0:List Int)(p1_1:Int)(p1_2:Int):List Int→Nat→Int→Option (Nat×Int×Int)
 | [],i,Ag=>(some (1,(Ag,(i:Int))))
 |x::k,i,Ag=>((fun b1=>
 (bif b1 then (some (0,((i:Int),(i:Int))))
 else (K7 L p1_0 p1_1 p1_2 k (i+1) Ag))) (bif (decide (x < p1_1)) then true
 else (decide (x > p1_2))))
theorem Axl(L:Nat)(p1_0:List Int)(p1_1:Int)(p1_2:Int)(n:Nat)(hl:p1_0.length≤maxLen)(hn:p1_0.length < n):∀(Ag:Int),Kv L p1_0 p1_1 p1_2 n Ag 0=K7 L p1_0 p1_1 p1_2 p1_0 0 Ag:=lQ (fun k i n=>∀(Ag:Int),Kv L p1_0 p1_1 p1_2 n Ag (i:Int)=K7 L p1_0 p1_1 p1_2 k i Ag) hl hn (fun n i h Ag=>by simp only [Kv,Yu,K7,D1 h,aN,aB,aC]) (fun n i x k h hx ih Ag=>by simp only [Kv,Yu,K7,Dv h,Ip h,hx,A9 h hl,ih,aN,aB,aC])
def Ek(L:Nat)(a0:List (List Ap)):List ((List Ap))→Nat→Int→Option (Nat×Int×Int)
 | [],i,Aj=>(some (0,(Aj,(i:Int))))
 |x::k,i,Aj=>(bif (decide ((Cq (Aj+(x.length:Int))) < 0)) then none
 else (Ek L a0 k (i+1) (Cq (Aj+(x.length:Int)))))
theorem Ag9(L:Nat)(a0:List (List Ap))(n:Nat)(hl:a0.length≤maxLen)(hn:a0.length < n):∀(Aj:Int),Dq L a0 n Aj 0=Ek L a0 a0 0 Aj:=lQ (fun k i n=>∀(Aj:Int),Dq L a0 n Aj (i:Int)=Ek L a0 k i Aj) hl hn (fun n i h Aj=>by simp only [Dq,Ii,Ek,D1 h,aN,aB,aC]) (fun n i x k h hx ih Aj=>by simp only [Dq,Ii,Ek,Dv h,Ip h,hx,A9 h hl,ih,aN,aB,aC])
def El(L:Nat)(a0:List (List Ap)):List ((List Ap))→Nat→List Ap→Option (Nat×List Ap×Int)
 | [],i,Ct=>(some (0,(Ct,(i:Int))))
 |x::k,i,Ct=>(if ((Ct.length+x.length)*24≤140737488355328) then (if (Ct.length+x.length≤maxLen) then (El L a0 k (i+1) (Ct++x)) else none) else none)
theorem Aha(L:Nat)(a0:List (List Ap))(n:Nat)(hl:a0.length≤maxLen)(hn:a0.length < n):∀(Ct:List Ap),Dr L a0 n Ct 0=El L a0 a0 0 Ct:=lQ (fun k i n=>∀(Ct:List Ap),Dr L a0 n Ct (i:Int)=El L a0 k i Ct) hl hn (fun n i h Ct=>by simp only [Dr,Ij,El,D1 h,aN,aB,aC]) (fun n i x k h hx ih Ct=>by simp only [Dr,Ij,El,Dv h,Ip h,hx,A9 h hl,ih,aN,aB,aC])
def Kb(Fs:(List Ac)→Option Int)(L:Nat)(a0:List Ac):List Ac→Nat→Int→Option (Nat×Int×Int)
 | [],i,Ag=>(some (0,(Ag,(i:Int))))
 |x::k,i,Ag=>(Option.bind (Fs (x.Body)) fun r1=>
 (Option.bind (Fs (x.Else)) fun r2=>
 (Kb Fs L a0 k (i+1) (Cq (Ag+(Cq (r1+r2)))))))
theorem Azu(Fs:(List Ac)→Option Int)(L:Nat)(a0:List Ac)(n:Nat)(hl:a0.length≤maxLen)(hn:a0.length < n):∀(Ag:Int),Mw Fs L a0 n Ag 0=Kb Fs L a0 a0 0 Ag:=lQ (fun k i n=>∀(Ag:Int),Mw Fs L a0 n Ag (i:Int)=Kb Fs L a0 k i Ag) hl hn (fun n i h Ag=>by simp only [Mw,w3,Kb,D1 h,aN,aB,aC]) (fun n i x k h hx ih Ag=>by simp only [Mw,w3,Kb,Dv h,Ip h,hx,A9 h hl,ih,aN,aB,aC])
def Kc(Fv:(List Ac)→Option Int)(L:Nat)(a0:List Ac):List Ac→Nat→Int→Option (Nat×Int×Int)
 | [],i,Ag=>(some (0,(Ag,(i:Int))))
 |x::k,i,Ag=>(Option.bind (Fv (x.Body)) fun r1=>
 (Option.bind (Fv (x.Else)) fun r2=>
 (Kc Fv L a0 k (i+1) (if (Cq (1+r2)) > (if (Cq (1+r1)) > Ag then (Cq (1+r1)) else Ag) then (Cq (1+r2)) else (if (Cq (1+r1)) > Ag then (Cq (1+r1)) else Ag)))))
theorem Azv(Fv:(List Ac)→Option Int)(L:Nat)(a0:List Ac)(n:Nat)(hl:a0.length≤maxLen)(hn:a0.length < n):∀(Ag:Int),Mx Fv L a0 n Ag 0=Kc Fv L a0 a0 0 Ag:=lQ (fun k i n=>∀(Ag:Int),Mx Fv L a0 n Ag (i:Int)=Kc Fv L a0 k i Ag) hl hn (fun n i h Ag=>by simp only [Mx,w4,Kc,D1 h,aN,aB,aC]) (fun n i x k h hx ih Ag=>by simp only [Mx,w4,Kc,Dv h,Ip h,hx,A9 h hl,ih,aN,aB,aC])
def Tn(E6:Ab→Ab→Option Bool)(L:Nat)(a0:Ab)(a1:Ab):List Ab→Nat→Bool→Option (Nat×Bool×Int)
 | [],i,Ao=>(some (1,(Ao,(i:Int))))
 |x::k,i,Ao=>(if ((i:Int) < (a1.Kids.length:Int)) then (Option.bind (E6 x (a1.Kids.getD (Int.toNat (i:Int)) default)) fun r4=>
 (bif (!r4) then (some (0,(false,(i:Int))))
 else (Tn E6 L a0 a1 k (i+1) Ao))) else none)
theorem A28(E6:Ab→Ab→Option Bool)(L:Nat)(a0:Ab)(a1:Ab)(n:Nat)(hl:a0.Kids.length≤maxLen)(hn:a0.Kids.length < n):∀(Ao:Bool),P0 E6 L a0 a1 n Ao 0=Tn E6 L a0 a1 a0.Kids 0 Ao:=lQ (fun k i n=>∀(Ao:Bool),P0 E6 L a0 a1 n Ao (i:Int)=Tn E6 L a0 a1 k i Ao) hl hn (fun n i h Ao=>by simp only [P0,Acf,Tn,D1 h,aN,aB,aC]) (fun n i x k h hx ih Ao=>by simp only [P0,Acf,Tn,Dv h,Ip h,hx,A9 h hl,ih,aN,aB,aC])
def M7(Gc:Ab→Option Int)(L:Nat)(a0:Ab):List Ab→Nat→Int→Option (Nat×Int×Int)
 | [],i,Ag=>(some (0,(Ag,(i:Int))))
 |x::k,i,Ag=>(Option.bind (Gc x) fun r1=>
 (M7 Gc L a0 k (i+1) (Cq (Ag+r1))))
theorem Azh(Gc:Ab→Option Int)(L:Nat)(a0:Ab)(n:Nat)(hl:a0.Kids.length≤maxLen)(hn:a0.Kids.length < n):∀(Ag:Int),Mq Gc L a0 n Ag 0=M7 Gc L a0 a0.Kids 0 Ag:=lQ (fun k i n=>∀(Ag:Int),Mq Gc L a0 n Ag (i:Int)=M7 Gc L a0 k i Ag) hl hn (fun n i h Ag=>by simp only [Mq,u7,M7,D1 h,aN,aB,aC]) (fun n i x k h hx ih Ag=>by simp only [Mq,u7,M7,Dv h,Ip h,hx,A9 h hl,ih,aN,aB,aC])
def M6(Gd:Ab→Option Int)(L:Nat)(a0:Ab):List Ab→Nat→Int→Option (Nat×Int×Int)
 | [],i,Ag=>(some (0,(Ag,(i:Int))))
 |x::k,i,Ag=>(Option.bind (Gd x) fun r1=>
 (M6 Gd L a0 k (i+1) (if r1 > Ag then r1 else Ag)))
theorem Azg(Gd:Ab→Option Int)(L:Nat)(a0:Ab)(n:Nat)(hl:a0.Kids.length≤maxLen)(hn:a0.Kids.length < n):∀(Ag:Int),Mp Gd L a0 n Ag 0=M6 Gd L a0 a0.Kids 0 Ag:=lQ (fun k i n=>∀(Ag:Int),Mp Gd L a0 n Ag (i:Int)=M6 Gd L a0 k i Ag) hl hn (fun n i h Ag=>by simp only [Mp,u6,M6,D1 h,aN,aB,aC]) (fun n i x k h hx ih Ag=>by simp only [Mp,u6,M6,Dv h,Ip h,hx,A9 h hl,ih,aN,aB,aC])
def Gf(E7:Bv→Ab→Option Int)(L:Nat)(a1:Ab)(a0:Bv):List Ab→Nat→Int→Option (Nat×Int×Int)
 | [],i,Ao=>(some (1,(Ao,(i:Int))))
 |x::k,i,Ao=>(Option.bind (E7 a0 x) fun r2=>
 (bif (r2 != 0) then (some (0,(r2,(i:Int))))
 else (Gf E7 L a1 a0 k (i+1) Ao)))
theorem Aqt(E7:Bv→Ab→Option Int)(L:Nat)(a1:Ab)(a0:Bv)(n:Nat)(hl:a1.Kids.length≤maxLen)(hn:a1.Kids.length < n):∀(Ao:Int),Hp E7 L a1 a0 n Ao 0=Gf E7 L a1 a0 a1.Kids 0 Ao:=lQ (fun k i n=>∀(Ao:Int),Hp E7 L a1 a0 n Ao (i:Int)=Gf E7 L a1 a0 k i Ao) hl hn (fun n i h Ao=>by simp only [Hp,Rs,Gf,D1 h,aN,aB,aC]) (fun n i x k h hx ih Ao=>by simp only [Hp,Rs,Gf,Dv h,Ip h,hx,A9 h hl,ih,aN,aB,aC])
def Kd(L:Nat)(a0:Ac)(a1:Bs):List Ab→Nat→Int→Option (Nat×Int×Int)
 | [],i,Hh=>(some (1,(Hh,(i:Int))))
 |x::k,i,Hh=>(Option.bind (Rj L x) fun r6=>
 (bif (r6 != 0) then (some (0,(r6,(i:Int))))
 else (Kd L a0 a1 k (i+1) Hh)))
theorem Azx(L:Nat)(a0:Ac)(a1:Bs)(n:Nat)(hl:a0.Args.length≤maxLen)(hn:a0.Args.length < n):∀(Hh:Int),M4 L a0 a1 n Hh 0=Kd L a0 a1 a0.Args 0 Hh:=lQ (fun k i n=>∀(Hh:Int),M4 L a0 a1 n Hh (i:Int)=Kd L a0 a1 k i Hh) hl hn (fun n i h Hh=>by simp only [M4,w6,Kd,D1 h,aN,aB,aC]) (fun n i x k h hx ih Hh=>by simp only [M4,w6,Kd,Dv h,Ip h,hx,A9 h hl,ih,aN,aB,aC])
def Nb(F0:(List Ac)→Option Int)(L:Nat)(a0:List Ac):List Ac→Nat→Int→Option (Nat×Int×Int)
 | [],i,Ao=>(some (1,(Ao,(i:Int))))
 |x::k,i,Ao=>(Option.bind (Agz L (x.Op)) fun r1=>
 (Option.bind (bif (!r1.2) then (some true)
 else (Option.bind (Agy L x r1.1) fun r3=>
 (some (!r3)))) fun b2=>
 (bif b2 then (some (0,(1,(i:Int))))
 else (Option.bind (Aa6 L x r1.1) fun r4=>
 (bif (r4 != 0) then (some (0,(r4,(i:Int))))
 else (Option.bind (F0 (x.Body)) fun r5=>
 (bif (r5 != 0) then (some (0,(r5,(i:Int))))
 else (Option.bind (F0 (x.Else)) fun r6=>
 (bif (r6 != 0) then (some (0,(r6,(i:Int))))
 else (Nb F0 L a0 k (i+1) Ao))))))))))
theorem Azw(F0:(List Ac)→Option Int)(L:Nat)(a0:List Ac)(n:Nat)(hl:a0.length≤maxLen)(hn:a0.length < n):∀(Ao:Int),My F0 L a0 n Ao 0=Nb F0 L a0 a0 0 Ao:=lQ (fun k i n=>∀(Ao:Int),My F0 L a0 n Ao (i:Int)=Nb F0 L a0 k i Ao) hl hn (fun n i h Ao=>by simp only [My,w5,Nb,D1 h,aN,aB,aC]) (fun n i x k h hx ih Ao=>by simp only [My,w5,Nb,Dv h,Ip h,hx,A9 h hl,ih,aN,aB,aC])
def Ew(L:Nat)(r2:List Ap)(a0:Ak):List Ap→Nat→Int→List ByteArray→List Bool→Option (Nat×Int×Int×List ByteArray×List Bool)
 | [],i,Ao,Dz,D0=>(some (1,(Ao,(i:Int),Dz,D0)))
 |x::k,i,Ao,Dz,D0=>(Option.bind (Kr L (x.Name) a0 x Dz D0) fun o7=>
 (bif (o7.1 != 0) then (some (0,(o7.1,(i:Int),o7.2.1,o7.2.2)))
 else (Option.bind (Li L (x.Type_)) fun r8=>
 (bif (!r8) then (some (0,(1,(i:Int),o7.2.1,o7.2.2)))
 else (Ew L r2 a0 k (i+1) Ao o7.2.1 o7.2.2)))))
theorem Atx(L:Nat)(r2:List Ap)(a0:Ak)(n:Nat)(hl:r2.length≤maxLen)(hn:r2.length < n):∀(Ao:Int) (Dz:List ByteArray) (D0:List Bool),Hq L r2 a0 n Ao 0 Dz D0=Ew L r2 a0 r2 0 Ao Dz D0:=lQ (fun k i n=>∀(Ao:Int) (Dz:List ByteArray) (D0:List Bool),Hq L r2 a0 n Ao (i:Int) Dz D0=Ew L r2 a0 k i Ao Dz D0) hl hn (fun n i h Ao Dz D0=>by simp only [Hq,Aah,U5,Qb,Ew,D1 h,aN,aB,aC]) (fun n i x k h hx ih Ao Dz D0=>by simp only [Hq,Aah,U5,Qb,Ew,Dv h,Ip h,hx,A9 h hl,ih,aN,aB,aC])
def Ix(L:Nat)(p1_0:List Ak)(p1_1:Aa)(p1_2:ByteArray):List Ak→Nat→Int→Option (Nat×Int×Int)
 | [],i,Ag=>(some (1,(Ag,(i:Int))))
 |x::k,i,Ag=>(bif ((x.Name).toList == p1_2.toList) then (some (0,((i:Int),(i:Int))))
 else (Ix L p1_0 p1_1 p1_2 k (i+1) Ag))
theorem Atw(L:Nat)(p1_0:List Ak)(p1_1:Aa)(p1_2:ByteArray)(n:Nat)(hl:p1_0.length≤maxLen)(hn:p1_0.length < n):∀(Ag:Int),Iv L p1_0 p1_1 p1_2 n Ag 0=Ix L p1_0 p1_1 p1_2 p1_0 0 Ag:=lQ (fun k i n=>∀(Ag:Int),Iv L p1_0 p1_1 p1_2 n Ag (i:Int)=Ix L p1_0 p1_1 p1_2 k i Ag) hl hn (fun n i h Ag=>by simp only [Iv,Uu,Ix,D1 h,aN,aB,aC]) (fun n i x k h hx ih Ag=>by simp only [Iv,Uu,Ix,Dv h,Ip h,hx,A9 h hl,ih,aN,aB,aC])
def I7(L:Nat)(a0:Aa)(r1:Int)(a1:Bm):List Int→Nat→Int→Option (Nat×Int×Int)
 | [],i,Ao=>(some (1,(Ao,(i:Int))))
 |x::k,i,Ao=>(if ((i:Int) < ((((a0.Routines.getD (Int.toNat r1) default).Params).length:Nat):Int)) then (Option.bind (Un L ((((a0.Routines.getD (Int.toNat r1) default).Params).getD (Int.toNat (i:Int)) default).Type_) x) fun r2=>
 (bif (!r2) then (some (0,(2,(i:Int))))
 else (I7 L a0 r1 a1 k (i+1) Ao))) else none)
theorem Axt(L:Nat)(a0:Aa)(r1:Int)(a1:Bm)(n:Nat)(hl:a1.Args.length≤maxLen)(hn:a1.Args.length < n):∀(Ao:Int),K0 L a0 r1 a1 n Ao 0=I7 L a0 r1 a1 a1.Args 0 Ao:=lQ (fun k i n=>∀(Ao:Int),K0 L a0 r1 a1 n Ao (i:Int)=I7 L a0 r1 a1 k i Ao) hl hn (fun n i h Ao=>by simp only [K0,Yz,I7,D1 h,aN,aB,aC]) (fun n i x k h hx ih Ao=>by simp only [K0,Yz,I7,Dv h,Ip h,hx,A9 h hl,ih,aN,aB,aC])
def Na(L:Nat)(p1_0:List Aq)(p1_1:Aa)(p1_2:Av):List Aq→Nat→Int→Option (Nat×Int×Int)
 | [],i,Ag=>(some (1,(Ag,(i:Int))))
 |x::k,i,Ag=>(bif ((x.Name).toList == p1_2.Name.toList) then (some (0,((i:Int),(i:Int))))
 else (Na L p1_0 p1_1 p1_2 k (i+1) Ag))
theorem Azt(L:Nat)(p1_0:List Aq)(p1_1:Aa)(p1_2:Av)(n:Nat)(hl:p1_0.length≤maxLen)(hn:p1_0.length < n):∀(Ag:Int),Mv L p1_0 p1_1 p1_2 n Ag 0=Na L p1_0 p1_1 p1_2 p1_0 0 Ag:=lQ (fun k i n=>∀(Ag:Int),Mv L p1_0 p1_1 p1_2 n Ag (i:Int)=Na L p1_0 p1_1 p1_2 k i Ag) hl hn (fun n i h Ag=>by simp only [Mv,v8,Na,D1 h,aN,aB,aC]) (fun n i x k h hx ih Ag=>by simp only [Mv,v8,Na,Dv h,Ip h,hx,A9 h hl,ih,aN,aB,aC])
def Qs(L:Nat)(p11_0:List Av)(p11_1:Aa)(p11_2:List ByteArray)(p11_3:List Bool)(p11_4:Ba)(p11_5:Ba):List Av→Nat→Int→Option (Nat×Int×Int)
 | [],i,Bz=>(some (1,(Bz,(i:Int))))
 |x::k,i,Bz=>(Option.bind (Yi L p11_1 x) fun r6=>
 (bif (r6 != 0) then (some (0,(r6,(i:Int))))
 else (Qs L p11_0 p11_1 p11_2 p11_3 p11_4 p11_5 k (i+1) Bz)))
theorem Azl(L:Nat)(p11_0:List Av)(p11_1:Aa)(p11_2:List ByteArray)(p11_3:List Bool)(p11_4:Ba)(p11_5:Ba)(n:Nat)(hl:p11_0.length≤maxLen)(hn:p11_0.length < n):∀(Bz:Int),Mt L p11_0 p11_1 p11_2 p11_3 p11_4 p11_5 n Bz 0=Qs L p11_0 p11_1 p11_2 p11_3 p11_4 p11_5 p11_0 0 Bz:=lQ (fun k i n=>∀(Bz:Int),Mt L p11_0 p11_1 p11_2 p11_3 p11_4 p11_5 n Bz (i:Int)=Qs L p11_0 p11_1 p11_2 p11_3 p11_4 p11_5 k i Bz) hl hn (fun n i h Bz=>by simp only [Mt,v6,Qs,D1 h,aN,aB,aC]) (fun n i x k h hx ih Bz=>by simp only [Mt,v6,Qs,Dv h,Ip h,hx,A9 h hl,ih,aN,aB,aC])
def Qr(L:Nat)(p1_0:List Ba)(p1_1:Aa):List Ba→Nat→Int→List ByteArray→List Bool→Option (Nat×Int×Int×List ByteArray×List Bool)
 | [],i,Ao,Dx,Dy=>(some (1,(Ao,(i:Int),Dx,Dy)))
 |x::k,i,Ao,Dx,Dy=>(Option.bind (Qq L x p1_1 Dx Dy x) fun o10=>
 (bif (o10.1 != 0) then (some (0,(o10.1,(i:Int),o10.2.1,o10.2.2)))
 else (Qr L p1_0 p1_1 k (i+1) Ao o10.2.1 o10.2.2)))
theorem Azk(L:Nat)(p1_0:List Ba)(p1_1:Aa)(n:Nat)(hl:p1_0.length≤maxLen)(hn:p1_0.length < n):∀(Ao:Int) (Dx:List ByteArray) (Dy:List Bool),J4 L p1_0 p1_1 n Ao 0 Dx Dy=Qr L p1_0 p1_1 p1_0 0 Ao Dx Dy:=lQ (fun k i n=>∀(Ao:Int) (Dx:List ByteArray) (Dy:List Bool),J4 L p1_0 p1_1 n Ao (i:Int) Dx Dy=Qr L p1_0 p1_1 k i Ao Dx Dy) hl hn (fun n i h Ao Dx Dy=>by simp only [J4,Ahu,Zp,Ty,Qr,D1 h,aN,aB,aC]) (fun n i x k h hx ih Ao Dx Dy=>by simp only [J4,Ahu,Zp,Ty,Qr,Dv h,Ip h,hx,A9 h hl,ih,aN,aB,aC])
def Qt(L:Nat)(p41_0:List Al)(p41_1:Aa):List Al→Nat→Int→List ByteArray→List Bool→Option (Nat×Int×Int×List ByteArray×List Bool)
 | [],i,Ao,Dx,Dy=>(some (1,(Ao,(i:Int),Dx,Dy)))
 |x::k,i,Ao,Dx,Dy=>(Option.bind (Oi L x p41_1 Dx Dy x) fun o8=>
 (bif (o8.1 != 0) then (some (0,(o8.1,(i:Int),o8.2.1,o8.2.2)))
 else (Qt L p41_0 p41_1 k (i+1) Ao o8.2.1 o8.2.2)))
theorem Azm(L:Nat)(p41_0:List Al)(p41_1:Aa)(n:Nat)(hl:p41_0.length≤maxLen)(hn:p41_0.length < n):∀(Ao:Int) (Dx:List ByteArray) (Dy:List Bool),J5 L p41_0 p41_1 n Ao 0 Dx Dy=Qt L p41_0 p41_1 p41_0 0 Ao Dx Dy:=lQ (fun k i n=>∀(Ao:Int) (Dx:List ByteArray) (Dy:List Bool),J5 L p41_0 p41_1 n Ao (i:Int) Dx Dy=Qt L p41_0 p41_1 k i Ao Dx Dy) hl hn (fun n i h Ao Dx Dy=>by simp only [J5,Ahv,Zt,T2,Qt,D1 h,aN,aB,aC]) (fun n i x k h hx ih Ao Dx Dy=>by simp only [J5,Ahv,Zt,T2,Qt,Dv h,Ip h,hx,A9 h hl,ih,aN,aB,aC])
def Qu(L:Nat)(p48_0:List Af)(p48_1:Aa):List Af→Nat→Int→List ByteArray→List Bool→Option (Nat×Int×Int×List ByteArray×List Bool)
 | [],i,Bz,Nj,Nk=>(some (1,(Bz,(i:Int),Nj,Nk)))
 |x::k,i,Bz,Nj,Nk=>(Option.bind (Oj L x p48_1 Nj Nk x) fun o19=>
 (bif (o19.1 != 0) then (some (0,(o19.1,(i:Int),o19.2.1,o19.2.2)))
 else (Qu L p48_0 p48_1 k (i+1) Bz o19.2.1 o19.2.2)))
theorem Azn(L:Nat)(p48_0:List Af)(p48_1:Aa)(n:Nat)(hl:p48_0.length≤maxLen)(hn:p48_0.length < n):∀(Bz:Int) (Nj:List ByteArray) (Nk:List Bool),J6 L p48_0 p48_1 n Bz 0 Nj Nk=Qu L p48_0 p48_1 p48_0 0 Bz Nj Nk:=lQ (fun k i n=>∀(Bz:Int) (Nj:List ByteArray) (Nk:List Bool),J6 L p48_0 p48_1 n Bz (i:Int) Nj Nk=Qu L p48_0 p48_1 k i Bz Nj Nk) hl hn (fun n i h Bz Nj Nk=>by simp only [J6,Ahw,Zu,T3,Qu,D1 h,aN,aB,aC]) (fun n i x k h hx ih Bz Nj Nk=>by simp only [J6,Ahw,Zu,T3,Qu,Dv h,Ip h,hx,A9 h hl,ih,aN,aB,aC])
def Qv(L:Nat)(p55_0:List Aq)(p55_1:Aa):List Aq→Nat→Int→List ByteArray→List Bool→Option (Nat×Int×Int×List ByteArray×List Bool)
 | [],i,Hh,F3,Nl=>(some (1,(Hh,(i:Int),F3,Nl)))
 |x::k,i,Hh,F3,Nl=>(Option.bind (Ok L x p55_1 F3 Nl x) fun o29=>
 (bif (o29.1 != 0) then (some (0,(o29.1,(i:Int),o29.2.1,o29.2.2)))
 else (Qv L p55_0 p55_1 k (i+1) Hh o29.2.1 o29.2.2)))
theorem Azo(L:Nat)(p55_0:List Aq)(p55_1:Aa)(n:Nat)(hl:p55_0.length≤maxLen)(hn:p55_0.length < n):∀(Hh:Int) (F3:List ByteArray) (Nl:List Bool),J7 L p55_0 p55_1 n Hh 0 F3 Nl=Qv L p55_0 p55_1 p55_0 0 Hh F3 Nl:=lQ (fun k i n=>∀(Hh:Int) (F3:List ByteArray) (Nl:List Bool),J7 L p55_0 p55_1 n Hh (i:Int) F3 Nl=Qv L p55_0 p55_1 k i Hh F3 Nl) hl hn (fun n i h Hh F3 Nl=>by simp only [J7,Ahx,Zv,T4,Qv,D1 h,aN,aB,aC]) (fun n i x k h hx ih Hh F3 Nl=>by simp only [J7,Ahx,Zv,T4,Qv,Dv h,Ip h,hx,A9 h hl,ih,aN,aB,aC])
def Qw(L:Nat)(p62_0:List Au)(p62_1:Aa):List Au→Nat→Int→List ByteArray→List Bool→Option (Nat×Int×Int×List ByteArray×List Bool)
 | [],i,Lr,Nm,F4=>(some (1,(Lr,(i:Int),Nm,F4)))
 |x::k,i,Lr,Nm,F4=>(Option.bind (Ol L x p62_1 Nm F4 x) fun o40=>
 (bif (o40.1 != 0) then (some (0,(o40.1,(i:Int),o40.2.1,o40.2.2)))
 else (Qw L p62_0 p62_1 k (i+1) Lr o40.2.1 o40.2.2)))
theorem Azp(L:Nat)(p62_0:List Au)(p62_1:Aa)(n:Nat)(hl:p62_0.length≤maxLen)(hn:p62_0.length < n):∀(Lr:Int) (Nm:List ByteArray) (F4:List Bool),J8 L p62_0 p62_1 n Lr 0 Nm F4=Qw L p62_0 p62_1 p62_0 0 Lr Nm F4:=lQ (fun k i n=>∀(Lr:Int) (Nm:List ByteArray) (F4:List Bool),J8 L p62_0 p62_1 n Lr (i:Int) Nm F4=Qw L p62_0 p62_1 k i Lr Nm F4) hl hn (fun n i h Lr Nm F4=>by simp only [J8,Ahy,Zw,T5,Qw,D1 h,aN,aB,aC]) (fun n i x k h hx ih Lr Nm F4=>by simp only [J8,Ahy,Zw,T5,Qw,Dv h,Ip h,hx,A9 h hl,ih,aN,aB,aC])
def Qx(L:Nat)(p69_0:List ByteArray)(p69_1:Aa):List ByteArray→Nat→Int→List ByteArray→List Bool→Option (Nat×Int×Int×List ByteArray×List Bool)
 | [],i,Yc,Nn,No=>(some (1,(Yc,(i:Int),Nn,No)))
 |x::k,i,Yc,Nn,No=>(Option.bind (Om L x p69_1 Nn No) fun o47=>
 (bif (o47.1 != 0) then (some (0,(o47.1,(i:Int),o47.2.1,o47.2.2)))
 else (Qx L p69_0 p69_1 k (i+1) Yc o47.2.1 o47.2.2)))
theorem Azq(L:Nat)(p69_0:List ByteArray)(p69_1:Aa)(n:Nat)(hl:p69_0.length≤maxLen)(hn:p69_0.length < n):∀(Yc:Int) (Nn:List ByteArray) (No:List Bool),J9 L p69_0 p69_1 n Yc 0 Nn No=Qx L p69_0 p69_1 p69_0 0 Yc Nn No:=lQ (fun k i n=>∀(Yc:Int) (Nn:List ByteArray) (No:List Bool),J9 L p69_0 p69_1 n Yc (i:Int) Nn No=Qx L p69_0 p69_1 k i Yc Nn No) hl hn (fun n i h Yc Nn No=>by simp only [J9,Ahz,Zx,T6,Qx,D1 h,aN,aB,aC]) (fun n i x k h hx ih Yc Nn No=>by simp only [J9,Ahz,Zx,T6,Qx,Dv h,Ip h,hx,A9 h hl,ih,aN,aB,aC])
def Qy(L:Nat)(p72_0:List Ak)(p72_1:Aa):List Ak→Nat→Int→List ByteArray→List Bool→Option (Nat×Int×Int×List ByteArray×List Bool)
 | [],i,Yd,Np,Nq=>(some (1,(Yd,(i:Int),Np,Nq)))
 |x::k,i,Yd,Np,Nq=>(Option.bind (On L x p72_1 Np Nq x) fun o60=>
 (bif (o60.1 != 0) then (some (0,(o60.1,(i:Int),o60.2.1,o60.2.2)))
 else (Qy L p72_0 p72_1 k (i+1) Yd o60.2.1 o60.2.2)))
theorem Azr(L:Nat)(p72_0:List Ak)(p72_1:Aa)(n:Nat)(hl:p72_0.length≤maxLen)(hn:p72_0.length < n):∀(Yd:Int) (Np:List ByteArray) (Nq:List Bool),Ka L p72_0 p72_1 n Yd 0 Np Nq=Qy L p72_0 p72_1 p72_0 0 Yd Np Nq:=lQ (fun k i n=>∀(Yd:Int) (Np:List ByteArray) (Nq:List Bool),Ka L p72_0 p72_1 n Yd (i:Int) Np Nq=Qy L p72_0 p72_1 k i Yd Np Nq) hl hn (fun n i h Yd Np Nq=>by simp only [Ka,Ah0,Wq,R6,Qy,D1 h,aN,aB,aC]) (fun n i x k h hx ih Yd Np Nq=>by simp only [Ka,Ah0,Wq,R6,Qy,Dv h,Ip h,hx,A9 h hl,ih,aN,aB,aC])
def Qz(L:Nat)(p79_0:List Bm)(p79_1:Aa)(p79_2:List ByteArray)(p79_3:List Bool):List Bm→Nat→Int→Option (Nat×Int×Int)
 | [],i,Aqx=>(some (1,(Aqx,(i:Int))))
 |x::k,i,Aqx=>(Option.bind (Vs L p79_1 x) fun r63=>
 (bif (r63 != 0) then (some (0,(r63,(i:Int))))
 else (Qz L p79_0 p79_1 p79_2 p79_3 k (i+1) Aqx)))
theorem Azs(L:Nat)(p79_0:List Bm)(p79_1:Aa)(p79_2:List ByteArray)(p79_3:List Bool)(n:Nat)(hl:p79_0.length≤maxLen)(hn:p79_0.length < n):∀(Aqx:Int),Mu L p79_0 p79_1 p79_2 p79_3 n Aqx 0=Qz L p79_0 p79_1 p79_2 p79_3 p79_0 0 Aqx:=lQ (fun k i n=>∀(Aqx:Int),Mu L p79_0 p79_1 p79_2 p79_3 n Aqx (i:Int)=Qz L p79_0 p79_1 p79_2 p79_3 k i Aqx) hl hn (fun n i h Aqx=>by simp only [Mu,v7,Qz,D1 h,aN,aB,aC]) (fun n i x k h hx ih Aqx=>by simp only [Mu,v7,Qz,Dv h,Ip h,hx,A9 h hl,ih,aN,aB,aC])
def M9(L:Nat)(p1_0:List Aa)(p1_1:Ad)(p1_2:ByteArray):List Aa→Nat→Int→Option (Nat×Int×Int)
 | [],i,Ag=>(some (1,(Ag,(i:Int))))
 |x::k,i,Ag=>(bif ((x.Name).toList == p1_2.toList) then (some (0,((i:Int),(i:Int))))
 else (M9 L p1_0 p1_1 p1_2 k (i+1) Ag))
theorem Azj(L:Nat)(p1_0:List Aa)(p1_1:Ad)(p1_2:ByteArray)(n:Nat)(hl:p1_0.length≤maxLen)(hn:p1_0.length < n):∀(Ag:Int),Ms L p1_0 p1_1 p1_2 n Ag 0=M9 L p1_0 p1_1 p1_2 p1_0 0 Ag:=lQ (fun k i n=>∀(Ag:Int),Ms L p1_0 p1_1 p1_2 n Ag (i:Int)=M9 L p1_0 p1_1 p1_2 k i Ag) hl hn (fun n i h Ag=>by simp only [Ms,v5,M9,D1 h,aN,aB,aC]) (fun n i x k h hx ih Ag=>by simp only [Ms,v5,M9,Dv h,Ip h,hx,A9 h hl,ih,aN,aB,aC])
def I6(L:Nat)(p1_0:List Bl)(p1_1:Ad):List Bl→Nat→Int→List Bt→List Bool→Option (Nat×Int×Int×List Bt×List Bool)
 | [],i,Ao,Dz,D0=>(some (1,(Ao,(i:Int),Dz,D0)))
 |x::k,i,Ao,Dz,D0=>(Option.bind (Tj L x p1_1 Dz D0 x) fun o8=>
 (bif (o8.1 != 0) then (some (0,(o8.1,(i:Int),o8.2.1,o8.2.2)))
 else (I6 L p1_0 p1_1 k (i+1) Ao o8.2.1 o8.2.2)))
theorem Axo(L:Nat)(p1_0:List Bl)(p1_1:Ad)(n:Nat)(hl:p1_0.length≤maxLen)(hn:p1_0.length < n):∀(Ao:Int) (Dz:List Bt) (D0:List Bool),I5 L p1_0 p1_1 n Ao 0 Dz D0=I6 L p1_0 p1_1 p1_0 0 Ao Dz D0:=lQ (fun k i n=>∀(Ao:Int) (Dz:List Bt) (D0:List Bool),I5 L p1_0 p1_1 n Ao (i:Int) Dz D0=I6 L p1_0 p1_1 k i Ao Dz D0) hl hn (fun n i h Ao Dz D0=>by simp only [I5,Aez,Zq,T0,I6,D1 h,aN,aB,aC]) (fun n i x k h hx ih Ao Dz D0=>by simp only [I5,Aez,Zq,T0,I6,Dv h,Ip h,hx,A9 h hl,ih,aN,aB,aC])
def Oo(L:Nat)(p1_0:List Al)(p1_1:Ad):List Al→Nat→Int→List ByteArray→List Bool→Option (Nat×Int×Int×List ByteArray×List Bool)
 | [],i,Ao,Dz,D0=>(some (1,(Ao,(i:Int),Dz,D0)))
 |x::k,i,Ao,Dz,D0=>(Option.bind (Oh L x p1_1 Dz D0 x) fun o9=>
 (bif (o9.1 != 0) then (some (0,(o9.1,(i:Int),o9.2.1,o9.2.2)))
 else (Oo L p1_0 p1_1 k (i+1) Ao o9.2.1 o9.2.2)))
theorem Axm(L:Nat)(p1_0:List Al)(p1_1:Ad)(n:Nat)(hl:p1_0.length≤maxLen)(hn:p1_0.length < n):∀(Ao:Int) (Dz:List ByteArray) (D0:List Bool),I3 L p1_0 p1_1 n Ao 0 Dz D0=Oo L p1_0 p1_1 p1_0 0 Ao Dz D0:=lQ (fun k i n=>∀(Ao:Int) (Dz:List ByteArray) (D0:List Bool),I3 L p1_0 p1_1 n Ao (i:Int) Dz D0=Oo L p1_0 p1_1 k i Ao Dz D0) hl hn (fun n i h Ao Dz D0=>by simp only [I3,Aex,Zn,Tx,Oo,D1 h,aN,aB,aC]) (fun n i x k h hx ih Ao Dz D0=>by simp only [I3,Aex,Zn,Tx,Oo,Dv h,Ip h,hx,A9 h hl,ih,aN,aB,aC])
def Oq(L:Nat)(p8_0:List Aa)(p8_1:Ad)(p8_2:List ByteArray)(p8_3:List Bool):List Aa→Nat→Int→List ByteArray→List Bool→Option (Nat×Int×Int×List ByteArray×List Bool)
 | [],i,Bz,Nh,Ni=>(some (1,(Bz,(i:Int),Nh,Ni)))
 |x::k,i,Bz,Nh,Ni=>(Option.bind (Mi L x p8_1 p8_2 p8_3 Nh Ni x) fun o18=>
 (bif (o18.1 != 0) then (some (0,(o18.1,(i:Int),o18.2.1,o18.2.2)))
 else (Oq L p8_0 p8_1 p8_2 p8_3 k (i+1) Bz o18.2.1 o18.2.2)))
theorem Axn(L:Nat)(p8_0:List Aa)(p8_1:Ad)(p8_2:List ByteArray)(p8_3:List Bool)(n:Nat)(hl:p8_0.length≤maxLen)(hn:p8_0.length < n):∀(Bz:Int) (Nh:List ByteArray) (Ni:List Bool),I4 L p8_0 p8_1 p8_2 p8_3 n Bz 0 Nh Ni=Oq L p8_0 p8_1 p8_2 p8_3 p8_0 0 Bz Nh Ni:=lQ (fun k i n=>∀(Bz:Int) (Nh:List ByteArray) (Ni:List Bool),I4 L p8_0 p8_1 p8_2 p8_3 n Bz (i:Int) Nh Ni=Oq L p8_0 p8_1 p8_2 p8_3 k i Bz Nh Ni) hl hn (fun n i h Bz Nh Ni=>by simp only [I4,Aey,Wn,R3,Oq,D1 h,aN,aB,aC]) (fun n i x k h hx ih Bz Nh Ni=>by simp only [I4,Aey,Wn,R3,Oq,Dv h,Ip h,hx,A9 h hl,ih,aN,aB,aC])
def Lc(L:Nat)(a1:ByteArray)(a0:Ar):List Al→Nat→Int→Bool→Option (Nat×Int×Bool×Int)
 | [],i,Ag,Aj=>(some (1,(Ag,Aj,(i:Int))))
 |x::k,i,Ag,Aj=>(bif ((x.Name).toList == a1.toList) then (some (0,((x.Type_),true,(i:Int))))
 else (Lc L a1 a0 k (i+1) Ag Aj))
theorem Axu(L:Nat)(a1:ByteArray)(a0:Ar)(n:Nat)(hl:a0.Site.Vars.length≤maxLen)(hn:a0.Site.Vars.length < n):∀(Ag:Int) (Aj:Bool),K2 L a1 a0 n Ag Aj 0=Lc L a1 a0 a0.Site.Vars 0 Ag Aj:=lQ (fun k i n=>∀(Ag:Int) (Aj:Bool),K2 L a1 a0 n Ag Aj (i:Int)=Lc L a1 a0 k i Ag Aj) hl hn (fun n i h Ag Aj=>by simp only [K2,Y0,Lc,D1 h,aN,aB,aC]) (fun n i x k h hx ih Ag Aj=>by simp only [K2,Y0,Lc,Dv h,Ip h,hx,A9 h hl,ih,aN,aB,aC])
def Ld(L:Nat)(a1:ByteArray)(a0:Ar):List Al→Nat→Int→Bool→Option (Nat×Int×Bool×Int)
 | [],i,Ct,Gk=>(some (1,(Ct,Gk,(i:Int))))
 |x::k,i,Ct,Gk=>(bif ((x.Name).toList == a1.toList) then (some (0,((x.Type_),true,(i:Int))))
 else (Ld L a1 a0 k (i+1) Ct Gk))
theorem Axv(L:Nat)(a1:ByteArray)(a0:Ar)(n:Nat)(hl:a0.Params.length≤maxLen)(hn:a0.Params.length < n):∀(Ct:Int) (Gk:Bool),K3 L a1 a0 n Ct Gk 0=Ld L a1 a0 a0.Params 0 Ct Gk:=lQ (fun k i n=>∀(Ct:Int) (Gk:Bool),K3 L a1 a0 n Ct Gk (i:Int)=Ld L a1 a0 k i Ct Gk) hl hn (fun n i h Ct Gk=>by simp only [K3,Y1,Ld,D1 h,aN,aB,aC]) (fun n i x k h hx ih Ct Gk=>by simp only [K3,Y1,Ld,Dv h,Ip h,hx,A9 h hl,ih,aN,aB,aC])
def K8(L:Nat)(p1_0:List Al)(p1_1:Aa)(p1_2:ByteArray):List Al→Nat→Int→Option (Nat×Int×Int)
 | [],i,Ag=>(some (1,(Ag,(i:Int))))
 |x::k,i,Ag=>(bif ((x.Name).toList == p1_2.toList) then (some (0,((i:Int),(i:Int))))
 else (K8 L p1_0 p1_1 p1_2 k (i+1) Ag))
theorem Axp(L:Nat)(p1_0:List Al)(p1_1:Aa)(p1_2:ByteArray)(n:Nat)(hl:p1_0.length≤maxLen)(hn:p1_0.length < n):∀(Ag:Int),Kw L p1_0 p1_1 p1_2 n Ag 0=K8 L p1_0 p1_1 p1_2 p1_0 0 Ag:=lQ (fun k i n=>∀(Ag:Int),Kw L p1_0 p1_1 p1_2 n Ag (i:Int)=K8 L p1_0 p1_1 p1_2 k i Ag) hl hn (fun n i h Ag=>by simp only [Kw,Yv,K8,D1 h,aN,aB,aC]) (fun n i x k h hx ih Ag=>by simp only [Kw,Yv,K8,Dv h,Ip h,hx,A9 h hl,ih,aN,aB,aC])
def K9(L:Nat)(p2_0:List Af)(p2_1:Aa)(p2_2:ByteArray):List Af→Nat→Int→Option (Nat×Int×Int)
 | [],i,Ct=>(some (1,(Ct,(i:Int))))
 |x::k,i,Ct=>(bif ((x.Name).toList == p2_2.toList) then (some (0,((i:Int),(i:Int))))
 else (K9 L p2_0 p2_1 p2_2 k (i+1) Ct))
theorem Axq(L:Nat)(p2_0:List Af)(p2_1:Aa)(p2_2:ByteArray)(n:Nat)(hl:p2_0.length≤maxLen)(hn:p2_0.length < n):∀(Ct:Int),Kx L p2_0 p2_1 p2_2 n Ct 0=K9 L p2_0 p2_1 p2_2 p2_0 0 Ct:=lQ (fun k i n=>∀(Ct:Int),Kx L p2_0 p2_1 p2_2 n Ct (i:Int)=K9 L p2_0 p2_1 p2_2 k i Ct) hl hn (fun n i h Ct=>by simp only [Kx,Yw,K9,D1 h,aN,aB,aC]) (fun n i x k h hx ih Ct=>by simp only [Kx,Yw,K9,Dv h,Ip h,hx,A9 h hl,ih,aN,aB,aC])
def La(L:Nat)(p3_0:List Aq)(p3_1:Aa)(p3_2:ByteArray):List Aq→Nat→Int→Option (Nat×Int×Int)
 | [],i,Jz=>(some (1,(Jz,(i:Int))))
 |x::k,i,Jz=>(bif ((x.Name).toList == p3_2.toList) then (some (0,((i:Int),(i:Int))))
 else (La L p3_0 p3_1 p3_2 k (i+1) Jz))
theorem Axr(L:Nat)(p3_0:List Aq)(p3_1:Aa)(p3_2:ByteArray)(n:Nat)(hl:p3_0.length≤maxLen)(hn:p3_0.length < n):∀(Jz:Int),Ky L p3_0 p3_1 p3_2 n Jz 0=La L p3_0 p3_1 p3_2 p3_0 0 Jz:=lQ (fun k i n=>∀(Jz:Int),Ky L p3_0 p3_1 p3_2 n Jz (i:Int)=La L p3_0 p3_1 p3_2 k i Jz) hl hn (fun n i h Jz=>by simp only [Ky,Yx,La,D1 h,aN,aB,aC]) (fun n i x k h hx ih Jz=>by simp only [Ky,Yx,La,Dv h,Ip h,hx,A9 h hl,ih,aN,aB,aC])
def Lb(L:Nat)(p4_0:List Au)(p4_1:Aa)(p4_2:ByteArray):List Au→Nat→Int→Option (Nat×Int×Int)
 | [],i,Kf=>(some (1,(Kf,(i:Int))))
 |x::k,i,Kf=>(bif ((x.Name).toList == p4_2.toList) then (some (0,((i:Int),(i:Int))))
 else (Lb L p4_0 p4_1 p4_2 k (i+1) Kf))
theorem Axs(L:Nat)(p4_0:List Au)(p4_1:Aa)(p4_2:ByteArray)(n:Nat)(hl:p4_0.length≤maxLen)(hn:p4_0.length < n):∀(Kf:Int),Kz L p4_0 p4_1 p4_2 n Kf 0=Lb L p4_0 p4_1 p4_2 p4_0 0 Kf:=lQ (fun k i n=>∀(Kf:Int),Kz L p4_0 p4_1 p4_2 n Kf (i:Int)=Lb L p4_0 p4_1 p4_2 k i Kf) hl hn (fun n i h Kf=>by simp only [Kz,Yy,Lb,D1 h,aN,aB,aC]) (fun n i x k h hx ih Kf=>by simp only [Kz,Yy,Lb,Dv h,Ip h,hx,A9 h hl,ih,aN,aB,aC])
def I8(Ga:Ar→Ab→Option (Int×Int))(L:Nat)(a1:Ab)(a0:Ar):List Ab→Nat→Int→Int→List Int→Option (Nat×Int×Int×List Int×Int)
 | [],i,Ao,Ag,Aj=>(some (1,(Ao,Ag,Aj,(i:Int))))
 |x::k,i,Ao,Ag,Aj=>(Option.bind (Ga a0 x) fun r1=>
 (bif (r1.2 != 0) then (some (0,(0,r1.2,Aj,(i:Int))))
 else (if ((Aj.length+ [r1.1].length)*8≤140737488355328) then (if (Aj.length+ [r1.1].length≤maxLen) then (I8 Ga L a1 a0 k (i+1) Ao Ag (Aj++ [r1.1])) else none) else none)))
theorem Axw(Ga:Ar→Ab→Option (Int×Int))(L:Nat)(a1:Ab)(a0:Ar)(n:Nat)(hl:a1.Kids.length≤maxLen)(hn:a1.Kids.length < n):∀(Ao:Int) (Ag:Int) (Aj:List Int),K4 Ga L a1 a0 n Ao Ag Aj 0=I8 Ga L a1 a0 a1.Kids 0 Ao Ag Aj:=lQ (fun k i n=>∀(Ao:Int) (Ag:Int) (Aj:List Int),K4 Ga L a1 a0 n Ao Ag Aj (i:Int)=I8 Ga L a1 a0 k i Ao Ag Aj) hl hn (fun n i h Ao Ag Aj=>by simp only [K4,Y2,I8,D1 h,aN,aB,aC]) (fun n i x k h hx ih Ao Ag Aj=>by simp only [K4,Y2,I8,Dv h,Ip h,hx,A9 h hl,ih,aN,aB,aC])
def Ej(L:Nat)(r1:Int×Int)(a2:List Int)(a1:Ab):List Int→Nat→Int→Option (Nat×Int×Int)
 | [],i,Ao=>(some (1,(Ao,(i:Int))))
 |x::k,i,Ao=>(bif (r1.1 == x) then (some (0,(0,(i:Int))))
 else (Ej L r1 a2 a1 k (i+1) Ao))
theorem Aka(L:Nat)(r1:Int×Int)(a2:List Int)(a1:Ab)(n:Nat)(hl:a2.length≤maxLen)(hn:a2.length < n):∀(Ao:Int),Eh L r1 a2 a1 n Ao 0=Ej L r1 a2 a1 a2 0 Ao:=lQ (fun k i n=>∀(Ao:Int),Eh L r1 a2 a1 n Ao (i:Int)=Ej L r1 a2 a1 k i Ao) hl hn (fun n i h Ao=>by simp only [Eh,Ki,Ej,D1 h,aN,aB,aC]) (fun n i x k h hx ih Ao=>by simp only [Eh,Ki,Ej,Dv h,Ip h,hx,A9 h hl,ih,aN,aB,aC])
def F8(L:Nat)(a0:Am)(r1:Int×Bool)(a1:Ac):List Al→Nat→Int→Option (Nat×Int×Int)
 | [],i,C8=>(some (1,(C8,(i:Int))))
 |x::k,i,C8=>(bif ((x.Name).toList == a1.Name.toList) then (Option.bind (B2 L a0 a1.E [x.Type_]) fun r2=>
 (some (0,(r2,(i:Int)))))
 else (F8 L a0 r1 a1 k (i+1) C8))
theorem Amf(L:Nat)(a0:Am)(r1:Int×Bool)(a1:Ac)(n:Nat)(hl:a0.u_env.Site.Vars.length≤maxLen)(hn:a0.u_env.Site.Vars.length < n):∀(C8:Int),F7 L a0 r1 a1 n C8 0=F8 L a0 r1 a1 a0.u_env.Site.Vars 0 C8:=lQ (fun k i n=>∀(C8:Int),F7 L a0 r1 a1 n C8 (i:Int)=F8 L a0 r1 a1 k i C8) hl hn (fun n i h C8=>by simp only [F7,Mj,F8,D1 h,aN,aB,aC]) (fun n i x k h hx ih C8=>by simp only [F7,Mj,F8,Dv h,Ip h,hx,A9 h hl,ih,aN,aB,aC])
def D8(L:Nat)(r1:Int×Bool)(a2:List Int):List Int→Nat→Int→Option (Nat×Int×Int)
 | [],i,Ao=>(some (1,(Ao,(i:Int))))
 |x::k,i,Ao=>(bif (r1.1 == x) then (some (0,(0,(i:Int))))
 else (D8 L r1 a2 k (i+1) Ao))
theorem Ai1(L:Nat)(r1:Int×Bool)(a2:List Int)(n:Nat)(hl:a2.length≤maxLen)(hn:a2.length < n):∀(Ao:Int),D7 L r1 a2 n Ao 0=D8 L r1 a2 a2 0 Ao:=lQ (fun k i n=>∀(Ao:Int),D7 L r1 a2 n Ao (i:Int)=D8 L r1 a2 k i Ao) hl hn (fun n i h Ao=>by simp only [D7,Jl,D8,D1 h,aN,aB,aC]) (fun n i x k h hx ih Ao=>by simp only [D7,Jl,D8,Dv h,Ip h,hx,A9 h hl,ih,aN,aB,aC])
def Ei(L:Nat)(a0:Am)(a3:List Ab)(a1:Ac):List Ab→Nat→Int→Option (Nat×Int×Int)
 | [],i,C8=>(some (1,(C8,(i:Int))))
 |x::k,i,C8=>(Option.bind (B2 L a0 x [1]) fun r2=>
 (bif (r2 != 0) then (some (0,(r2,(i:Int))))
 else (Ei L a0 a3 a1 k (i+1) C8)))
theorem Aj9(L:Nat)(a0:Am)(a3:List Ab)(a1:Ac)(n:Nat)(hl:a3.length≤maxLen)(hn:a3.length < n):∀(C8:Int),Eg L a0 a3 a1 n C8 0=Ei L a0 a3 a1 a3 0 C8:=lQ (fun k i n=>∀(C8:Int),Eg L a0 a3 a1 n C8 (i:Int)=Ei L a0 a3 a1 k i C8) hl hn (fun n i h C8=>by simp only [Eg,Kh,Ei,D1 h,aN,aB,aC]) (fun n i x k h hx ih C8=>by simp only [Eg,Kh,Ei,Dv h,Ip h,hx,A9 h hl,ih,aN,aB,aC])
def M8(L:Nat)(p1_0:List Bl)(p1_1:Ad)(p1_2:ByteArray)(p1_3:ByteArray):List Bl→Nat→Int→Option (Nat×Int×Int)
 | [],i,Ag=>(some (1,(Ag,(i:Int))))
 |x::k,i,Ag=>((fun b1=>
 (bif b1 then (some (0,((i:Int),(i:Int))))
 else (M8 L p1_0 p1_1 p1_2 p1_3 k (i+1) Ag))) (bif ((x.From).toList == p1_2.toList) then ((x.To).toList == p1_3.toList)
 else false))
theorem Azi(L:Nat)(p1_0:List Bl)(p1_1:Ad)(p1_2:ByteArray)(p1_3:ByteArray)(n:Nat)(hl:p1_0.length≤maxLen)(hn:p1_0.length < n):∀(Ag:Int),Mr L p1_0 p1_1 p1_2 p1_3 n Ag 0=M8 L p1_0 p1_1 p1_2 p1_3 p1_0 0 Ag:=lQ (fun k i n=>∀(Ag:Int),Mr L p1_0 p1_1 p1_2 p1_3 n Ag (i:Int)=M8 L p1_0 p1_1 p1_2 p1_3 k i Ag) hl hn (fun n i h Ag=>by simp only [Mr,u9,M8,D1 h,aN,aB,aC]) (fun n i x k h hx ih Ag=>by simp only [Mr,u9,M8,Dv h,Ip h,hx,A9 h hl,ih,aN,aB,aC])
def Ez(L:Nat)(a0:Am)(a2:Ac)(a1:Ak):List Ab→Nat→Int→Option (Nat×Int×Int)
 | [],i,C8=>(some (1,(C8,(i:Int))))
 |x::k,i,C8=>(if ((i:Int) < (a1.Params.length:Int)) then (Option.bind (B2 L a0 x [(a1.Params.getD (Int.toNat (i:Int)) default).Type_]) fun r1=>
 (bif (r1 != 0) then (some (0,(r1,(i:Int))))
 else (Ez L a0 a2 a1 k (i+1) C8))) else none)
theorem Akq(L:Nat)(a0:Am)(a2:Ac)(a1:Ak)(n:Nat)(hl:a2.Args.length≤maxLen)(hn:a2.Args.length < n):∀(C8:Int),Et L a0 a2 a1 n C8 0=Ez L a0 a2 a1 a2.Args 0 C8:=lQ (fun k i n=>∀(C8:Int),Et L a0 a2 a1 n C8 (i:Int)=Ez L a0 a2 a1 k i C8) hl hn (fun n i h C8=>by simp only [Et,Lm,Ez,D1 h,aN,aB,aC]) (fun n i x k h hx ih C8=>by simp only [Et,Lm,Ez,Dv h,Ip h,hx,A9 h hl,ih,aN,aB,aC])
def E5(Iq:Am→(List Ac)→Option Int)(L:Nat)(a0:Am)(a1:List Ac):List Ac→Nat→Int→Option (Nat×Int×Int)
 | [],i,C8=>(some (1,(C8,(i:Int))))
 |x::k,i,C8=>(Option.bind (Lt L a0 x) fun r1=>
 (bif (r1 != 0) then (some (0,(r1,(i:Int))))
 else (Option.bind (Iq a0 (x.Body)) fun r2=>
 (bif (r2 != 0) then (some (0,(r2,(i:Int))))
 else (Option.bind (Iq a0 (x.Else)) fun r3=>
 (bif (r3 != 0) then (some (0,(r3,(i:Int))))
 else (E5 Iq L a0 a1 k (i+1) C8)))))))
theorem Akr(Iq:Am→(List Ac)→Option Int)(L:Nat)(a0:Am)(a1:List Ac)(n:Nat)(hl:a1.length≤maxLen)(hn:a1.length < n):∀(C8:Int),Eu Iq L a0 a1 n C8 0=E5 Iq L a0 a1 a1 0 C8:=lQ (fun k i n=>∀(C8:Int),Eu Iq L a0 a1 n C8 (i:Int)=E5 Iq L a0 a1 k i C8) hl hn (fun n i h C8=>by simp only [Eu,Ln,E5,D1 h,aN,aB,aC]) (fun n i x k h hx ih C8=>by simp only [Eu,Ln,E5,Dv h,Ip h,hx,A9 h hl,ih,aN,aB,aC])
def Jx(L:Nat)(Ai:Int)(a0:Ad):List Ak→Nat→Int→Option (Nat×Int×Int)
 | [],i,Bz=>(some (1,(Bz,(i:Int))))
 |x::k,i,Bz=>(if ((0+(x.Params).length)*24≤140737488355328) then (if (0+(x.Params).length≤maxLen) then (if (((x.Params).length+(x.Locals).length)*24≤140737488355328) then (if ((x.Params).length+(x.Locals).length≤maxLen) then (Option.bind (Tc L a0 Ai (x.Params++x.Locals) (x.Body)) fun r2=>
 (bif (r2 != 0) then (some (0,(r2,(i:Int))))
 else (Jx L Ai a0 k (i+1) Bz))) else none) else none) else none) else none)
theorem Avz(L:Nat)(Ai:Int)(a0:Ad)(n:Nat)(hl:((a0.Sites.getD (Int.toNat Ai) default).Routines).length≤maxLen)(hn:((a0.Sites.getD (Int.toNat Ai) default).Routines).length < n):∀(Bz:Int),H6 L Ai a0 n Bz 0=Jx L Ai a0 ((a0.Sites.getD (Int.toNat Ai) default).Routines) 0 Bz:=lQ (fun k i n=>∀(Bz:Int),H6 L Ai a0 n Bz (i:Int)=Jx L Ai a0 k i Bz) hl hn (fun n i h Bz=>by simp only [H6,Wa,Jx,D1 h,aN,aB,aC]) (fun n i x k h hx ih Bz=>by simp only [H6,Wa,Jx,Dv h,Ip h,hx,A9 h hl,ih,aN,aB,aC])
def Jw(L:Nat)(a0:Ad):List Aa→Nat→Int→Option (Nat×Int×Int)
 | [],i,Ao=>(some (1,(Ao,(i:Int))))
 |x::k,i,Ao=>(Option.bind (H6 L (i:Int) a0 L Ao 0) fun o3=>
 (As6 o3.1 [(some (0,(o3.2.1,(i:Int)))),(Jw L a0 k (i+1) o3.2.1)]))
theorem Avy(L:Nat)(a0:Ad)(n:Nat)(hl:a0.Sites.length≤maxLen)(hn:a0.Sites.length < n):∀(Ao:Int),H5 L a0 n Ao 0=Jw L a0 a0.Sites 0 Ao:=lQ (fun k i n=>∀(Ao:Int),H5 L a0 n Ao (i:Int)=Jw L a0 k i Ao) hl hn (fun n i h Ao=>by simp only [H5,Acg,Wr,R8,Jw,D1 h,aN,aB,aC]) (fun n i x k h hx ih Ao=>by simp only [H5,Acg,Wr,R8,Jw,Dv h,Ip h,hx,A9 h hl,ih,aN,aB,aC])
def Iw(L:Nat)(a0:Int)(a1:List Int):List Int→Nat→Int→Option (Nat×Int×Int)
 | [],i,Aj=>(some (1,(Aj,(i:Int))))
 |x::k,i,Aj=>(Option.bind (j7 L a0 x) fun r1=>
 (bif (!r1) then (some (0,(2,(i:Int))))
 else (Option.bind (bif (decide ((i:Int) > 0)) then (if (0≤(Cq ((i:Int) - 1))) then (if ((Cq ((i:Int) - 1)) < (a1.length:Int)) then (some (decide (x≤(a1.getD (Int.toNat (Cq ((i:Int) - 1))) default)))) else none) else none)
 else (some false)) fun b2=>
 (bif b2 then (some (0,(12,(i:Int))))
 else (Iw L a0 a1 k (i+1) Aj)))))
theorem Atv(L:Nat)(a0:Int)(a1:List Int)(n:Nat)(hl:a1.length≤maxLen)(hn:a1.length < n):∀(Aj:Int),Iu L a0 a1 n Aj 0=Iw L a0 a1 a1 0 Aj:=lQ (fun k i n=>∀(Aj:Int),Iu L a0 a1 n Aj (i:Int)=Iw L a0 a1 k i Aj) hl hn (fun n i h Aj=>by simp only [Iu,Ut,Iw,D1 h,aN,aB,aC]) (fun n i x k h hx ih Aj=>by simp only [Iu,Ut,Iw,Dv h,Ip h,hx,A9 h hl,ih,aN,aB,aC])
def K6(L:Nat)(a0:List Ah):List Ah→Nat→Int→Option (Nat×Int×Int)
 | [],i,Ag=>(some (0,(Ag,(i:Int))))
 |x::k,i,Ag=>(Option.bind (Am4 L Ag ((x.Levels).length:Int)) fun r1=>
 (K6 L a0 k (i+1) r1))
theorem Axk(L:Nat)(a0:List Ah)(n:Nat)(hl:a0.length≤maxLen)(hn:a0.length < n):∀(Ag:Int),Ku L a0 n Ag 0=K6 L a0 a0 0 Ag:=lQ (fun k i n=>∀(Ag:Int),Ku L a0 n Ag (i:Int)=K6 L a0 k i Ag) hl hn (fun n i h Ag=>by simp only [Ku,Yt,K6,D1 h,aN,aB,aC]) (fun n i x k h hx ih Ag=>by simp only [Ku,Yt,K6,Dv h,Ip h,hx,A9 h hl,ih,aN,aB,aC])
def Ju(L:Nat)(p1_0:List Al)(p1_1:Ad)(p1_2:Ah):List Al→Nat→Int→Option (Nat×Int×Int)
 | [],i,Ct=>(some (1,(Ct,(i:Int))))
 |x::k,i,Ct=>(bif ((x.Name).toList == p1_2.Name.toList) then (some (0,((i:Int),(i:Int))))
 else (Ju L p1_0 p1_1 p1_2 k (i+1) Ct))
theorem Avw(L:Nat)(p1_0:List Al)(p1_1:Ad)(p1_2:Ah)(n:Nat)(hl:p1_0.length≤maxLen)(hn:p1_0.length < n):∀(Ct:Int),Jp L p1_0 p1_1 p1_2 n Ct 0=Ju L p1_0 p1_1 p1_2 p1_0 0 Ct:=lQ (fun k i n=>∀(Ct:Int),Jp L p1_0 p1_1 p1_2 n Ct (i:Int)=Ju L p1_0 p1_1 p1_2 k i Ct) hl hn (fun n i h Ct=>by simp only [Jp,V8,Ju,D1 h,aN,aB,aC]) (fun n i x k h hx ih Ct=>by simp only [Jp,V8,Ju,Dv h,Ip h,hx,A9 h hl,ih,aN,aB,aC])
def Jv(L:Nat)(p2_0:List Ah)(p2_1:Ad)(p2_2:Ah):List Ah→Nat→Int→Option (Nat×Int×Int)
 | [],i,Jz=>(some (1,(Jz,(i:Int))))
 |x::k,i,Jz=>(bif ((x.Name).toList == p2_2.Name.toList) then (some (0,((i:Int),(i:Int))))
 else (Jv L p2_0 p2_1 p2_2 k (i+1) Jz))
theorem Avx(L:Nat)(p2_0:List Ah)(p2_1:Ad)(p2_2:Ah)(n:Nat)(hl:p2_0.length≤maxLen)(hn:p2_0.length < n):∀(Jz:Int),Jq L p2_0 p2_1 p2_2 n Jz 0=Jv L p2_0 p2_1 p2_2 p2_0 0 Jz:=lQ (fun k i n=>∀(Jz:Int),Jq L p2_0 p2_1 p2_2 n Jz (i:Int)=Jv L p2_0 p2_1 p2_2 k i Jz) hl hn (fun n i h Jz=>by simp only [Jq,V9,Jv,D1 h,aN,aB,aC]) (fun n i x k h hx ih Jz=>by simp only [Jq,V9,Jv,Dv h,Ip h,hx,A9 h hl,ih,aN,aB,aC])
def Jt(L:Nat)(a1:List Ah)(a0:Ad):List Ah→Nat→Int→Option (Nat×Int×Int)
 | [],i,Ag=>(some (1,(Ag,(i:Int))))
 |x::k,i,Ag=>(Option.bind (Rq L a0.Params a0 x) fun o3=>
 (bif (decide (o3 < 0)) then (some (0,(5,(i:Int))))
 else (if (0≤0) then (if (((i:Int):Int)≤(a1.length:Int)) then (if (((a1.length:Int):Int)≤(a1.length:Int)) then (Option.bind (Rr L ((a1.take (Int.toNat (i:Int))).drop 0) a0 x) fun o5=>
 (bif (decide (o5≥0)) then (some (0,(4,(i:Int))))
 else (if (0≤o3) then (if (o3 < (a0.Params.length:Int)) then (Option.bind (U8 L ((a0.Params.getD (Int.toNat o3) default).Type_) (x.Levels)) fun r6=>
 (bif (r6 != 0) then (some (0,(r6,(i:Int))))
 else (Jt L a1 a0 k (i+1) Ag))) else none) else none))) else none) else none) else none)))
theorem Avv(L:Nat)(a1:List Ah)(a0:Ad)(n:Nat)(hl:a1.length≤maxLen)(hn:a1.length < n):∀(Ag:Int),Hf L a1 a0 n Ag 0=Jt L a1 a0 a1 0 Ag:=lQ (fun k i n=>∀(Ag:Int),Hf L a1 a0 n Ag (i:Int)=Jt L a1 a0 k i Ag) hl hn (fun n i h Ag=>by simp only [Hf,Ace,Wk,Wc,Wl,Rz,Jt,D1 h,aN,aB,aC]) (fun n i x k h hx ih Ag=>by simp only [Hf,Ace,Wk,Wc,Wl,Rz,Jt,Dv h,Ip h,hx,A9 h hl,ih,aN,aB,aC])
def Sq(L:Nat)(a0:List ByteArray)(a1:ByteArray):List ByteArray→Nat→Int→Option (Nat×Int×Int)
 | [],i,Aj=>(some (1,(Aj,(i:Int))))
 |x::k,i,Aj=>(bif (x.toList == a1.toList) then (some (0,((i:Int),(i:Int))))
 else (Sq L a0 a1 k (i+1) Aj))
theorem A6n(L:Nat)(a0:List ByteArray)(a1:ByteArray)(n:Nat)(hl:a0.length≤maxLen)(hn:a0.length < n):∀(Aj:Int),Sg L a0 a1 n Aj 0=Sq L a0 a1 a0 0 Aj:=lQ (fun k i n=>∀(Aj:Int),Sg L a0 a1 n Aj (i:Int)=Sq L a0 a1 k i Aj) hl hn (fun n i h Aj=>by simp only [Sg,Af3,Sq,D1 h,aN,aB,aC]) (fun n i x k h hx ih Aj=>by simp only [Sg,Af3,Sq,Dv h,Ip h,hx,A9 h hl,ih,aN,aB,aC])
def L3(L:Nat)(a0:Aa):List Al→Nat→List ByteArray→Option (Nat×Int×List ByteArray)
 | [],i,Z5=>(some (0,((i:Int),Z5)))
 |x::k,i,Z5=>(if (0≤0) then (if (0 < ((10:Nat):Int)) then (if ((Z5.length+ [x.Name].length)*16≤140737488355328) then (if (Z5.length+ [x.Name].length≤maxLen) then (if (0≤0) then (if (0 < ((10:Nat):Int)) then (L3 L a0 k (i+1) (Z5++ [x.Name])) else none) else none) else none) else none) else none) else none)
theorem A2w(L:Nat)(a0:Aa)(n:Nat)(hl:a0.Vars.length≤maxLen)(hn:a0.Vars.length < n):∀(Z5:List ByteArray),Ph L a0 n 0 Z5=L3 L a0 a0.Vars 0 Z5:=lQ (fun k i n=>∀(Z5:List ByteArray),Ph L a0 n (i:Int) Z5=L3 L a0 k i Z5) hl hn (fun n i h Z5=>by simp only [Ph,Ab1,L3,D1 h,aN,aB,aC]) (fun n i x k h hx ih Z5=>by simp only [Ph,Ab1,L3,Dv h,Ip h,hx,A9 h hl,ih,aN,aB,aC])
def L4(L:Nat)(a0:Aa)(o1:Nat×Int×List ByteArray):List Af→Nat→List ByteArray→Option (Nat×Int×List ByteArray)
 | [],i,Z6=>(some (0,((i:Int),Z6)))
 |x::k,i,Z6=>(if (0≤1) then (if (1 < ((10:Nat):Int)) then (if ((Z6.length+ [x.Name].length)*16≤140737488355328) then (if (Z6.length+ [x.Name].length≤maxLen) then (if (0≤1) then (if (1 < ((10:Nat):Int)) then (L4 L a0 o1 k (i+1) (Z6++ [x.Name])) else none) else none) else none) else none) else none) else none)
theorem A2x(L:Nat)(a0:Aa)(o1:Nat×Int×List ByteArray)(n:Nat)(hl:a0.Resources.length≤maxLen)(hn:a0.Resources.length < n):∀(Z6:List ByteArray),Pq L a0 o1 n 0 Z6=L4 L a0 o1 a0.Resources 0 Z6:=lQ (fun k i n=>∀(Z6:List ByteArray),Pq L a0 o1 n (i:Int) Z6=L4 L a0 o1 k i Z6) hl hn (fun n i h Z6=>by simp only [Pq,Ab2,L4,D1 h,aN,aB,aC]) (fun n i x k h hx ih Z6=>by simp only [Pq,Ab2,L4,Dv h,Ip h,hx,A9 h hl,ih,aN,aB,aC])
def L5(L:Nat)(a0:Aa)(o1:Nat×Int×List ByteArray)(o2:Nat×Int×List ByteArray):List Aq→Nat→List ByteArray→Option (Nat×Int×List ByteArray)
 | [],i,F3=>(some (0,((i:Int),F3)))
 |x::k,i,F3=>(if (0≤2) then (if (2 < ((10:Nat):Int)) then (if ((F3.length+ [x.Name].length)*16≤140737488355328) then (if (F3.length+ [x.Name].length≤maxLen) then (if (0≤2) then (if (2 < ((10:Nat):Int)) then (L5 L a0 o1 o2 k (i+1) (F3++ [x.Name])) else none) else none) else none) else none) else none) else none)
theorem A2y(L:Nat)(a0:Aa)(o1:Nat×Int×List ByteArray)(o2:Nat×Int×List ByteArray)(n:Nat)(hl:a0.Stores.length≤maxLen)(hn:a0.Stores.length < n):∀(F3:List ByteArray),Pr L a0 o1 o2 n 0 F3=L5 L a0 o1 o2 a0.Stores 0 F3:=lQ (fun k i n=>∀(F3:List ByteArray),Pr L a0 o1 o2 n (i:Int) F3=L5 L a0 o1 o2 k i F3) hl hn (fun n i h F3=>by simp only [Pr,Ab3,L5,D1 h,aN,aB,aC]) (fun n i x k h hx ih F3=>by simp only [Pr,Ab3,L5,Dv h,Ip h,hx,A9 h hl,ih,aN,aB,aC])
def L6(L:Nat)(a0:Aa)(o1:Nat×Int×List ByteArray)(o2:Nat×Int×List ByteArray)(o3:Nat×Int×List ByteArray):List Au→Nat→List ByteArray→Option (Nat×Int×List ByteArray)
 | [],i,F4=>(some (0,((i:Int),F4)))
 |x::k,i,F4=>(if (0≤3) then (if (3 < ((10:Nat):Int)) then (if ((F4.length+ [x.Name].length)*16≤140737488355328) then (if (F4.length+ [x.Name].length≤maxLen) then (if (0≤3) then (if (3 < ((10:Nat):Int)) then (L6 L a0 o1 o2 o3 k (i+1) (F4++ [x.Name])) else none) else none) else none) else none) else none) else none)
theorem A2z(L:Nat)(a0:Aa)(o1:Nat×Int×List ByteArray)(o2:Nat×Int×List ByteArray)(o3:Nat×Int×List ByteArray)(n:Nat)(hl:a0.Belts.length≤maxLen)(hn:a0.Belts.length < n):∀(F4:List ByteArray),Ps L a0 o1 o2 o3 n 0 F4=L6 L a0 o1 o2 o3 a0.Belts 0 F4:=lQ (fun k i n=>∀(F4:List ByteArray),Ps L a0 o1 o2 o3 n (i:Int) F4=L6 L a0 o1 o2 o3 k i F4) hl hn (fun n i h F4=>by simp only [Ps,Ab4,L6,D1 h,aN,aB,aC]) (fun n i x k h hx ih F4=>by simp only [Ps,Ab4,L6,Dv h,Ip h,hx,A9 h hl,ih,aN,aB,aC])
def L7(L:Nat)(a0:Aa)(o1:Nat×Int×List ByteArray)(o2:Nat×Int×List ByteArray)(o3:Nat×Int×List ByteArray)(o4:Nat×Int×List ByteArray):List Ak→Nat→List ByteArray→Option (Nat×Int×List ByteArray)
 | [],i,Z7=>(some (0,((i:Int),Z7)))
 |x::k,i,Z7=>(if (0≤9) then (if (9 < ((10:Nat):Int)) then (if ((Z7.length+ [x.Name].length)*16≤140737488355328) then (if (Z7.length+ [x.Name].length≤maxLen) then (if (0≤9) then (if (9 < ((10:Nat):Int)) then (L7 L a0 o1 o2 o3 o4 k (i+1) (Z7++ [x.Name])) else none) else none) else none) else none) else none) else none)
theorem A20(L:Nat)(a0:Aa)(o1:Nat×Int×List ByteArray)(o2:Nat×Int×List ByteArray)(o3:Nat×Int×List ByteArray)(o4:Nat×Int×List ByteArray)(n:Nat)(hl:a0.Routines.length≤maxLen)(hn:a0.Routines.length < n):∀(Z7:List ByteArray),Pt L a0 o1 o2 o3 o4 n 0 Z7=L7 L a0 o1 o2 o3 o4 a0.Routines 0 Z7:=lQ (fun k i n=>∀(Z7:List ByteArray),Pt L a0 o1 o2 o3 o4 n (i:Int) Z7=L7 L a0 o1 o2 o3 o4 k i Z7) hl hn (fun n i h Z7=>by simp only [Pt,Ab5,L7,D1 h,aN,aB,aC]) (fun n i x k h hx ih Z7=>by simp only [Pt,Ab5,L7,Dv h,Ip h,hx,A9 h hl,ih,aN,aB,aC])
def H7(L:Nat)(a0:Af):List Cx→Nat→Int→Option (Nat×Int×Int)
 | [],i,Ao=>(some (1,(Ao,(i:Int))))
 |x::k,i,Ao=>(Option.bind (D2 L (x.At) 0 (Cq (a0.Cycle - 1))) fun r3=>
 (Option.bind (bif (!r3) then (some true)
 else (Option.bind (D2 L (x.Units) 0 1000) fun r5=>
 (some (!r5)))) fun b4=>
 (bif b4 then (some (0,(2,(i:Int))))
 else (bif (decide ((i:Int) > 0)) then (if (0≤(Cq ((i:Int) - 1))) then (if ((Cq ((i:Int) - 1)) < (a0.Shift.length:Int)) then (bif (decide (x.At≤(a0.Shift.getD (Int.toNat (Cq ((i:Int) - 1))) default).At)) then (some (0,(12,(i:Int))))
 else (H7 L a0 k (i+1) Ao)) else none) else none)
 else (H7 L a0 k (i+1) Ao)))))
theorem Avu(L:Nat)(a0:Af)(n:Nat)(hl:a0.Shift.length≤maxLen)(hn:a0.Shift.length < n):∀(Ao:Int),Jo L a0 n Ao 0=H7 L a0 a0.Shift 0 Ao:=lQ (fun k i n=>∀(Ao:Int),Jo L a0 n Ao (i:Int)=H7 L a0 k i Ao) hl hn (fun n i h Ao=>by simp only [Jo,V7,H7,D1 h,aN,aB,aC]) (fun n i x k h hx ih Ao=>by simp only [Jo,V7,H7,Dv h,Ip h,hx,A9 h hl,ih,aN,aB,aC])
def Js(L:Nat)(a0:List Int)(a1:List Int):List Int→Nat→Bool→Option (Nat×Bool×Int)
 | [],i,Aj=>(some (1,(Aj,(i:Int))))
 |x::k,i,Aj=>(if ((i:Int) < (a1.length:Int)) then (bif (x != (a1.getD (Int.toNat (i:Int)) default)) then (some (0,(false,(i:Int))))
 else (Js L a0 a1 k (i+1) Aj)) else none)
theorem Avt(L:Nat)(a0:List Int)(a1:List Int)(n:Nat)(hl:a0.length≤maxLen)(hn:a0.length < n):∀(Aj:Bool),Jn L a0 a1 n Aj 0=Js L a0 a1 a0 0 Aj:=lQ (fun k i n=>∀(Aj:Bool),Jn L a0 a1 n Aj (i:Int)=Js L a0 a1 k i Aj) hl hn (fun n i h Aj=>by simp only [Jn,V6,Js,D1 h,aN,aB,aC]) (fun n i x k h hx ih Aj=>by simp only [Jn,V6,Js,Dv h,Ip h,hx,A9 h hl,ih,aN,aB,aC])
def P2(L:Nat)(a0:Bj):List Int→Nat→Int→Option (Nat×Int×Int)
 | [],i,Ao=>(some (1,(Ao,(i:Int))))
 |x::k,i,Ao=>(Option.bind (Gt L x 0 1000000000) fun r1=>
 (Option.bind (bif (!r1) then (some true)
 else (if (0≤(i:Int)) then (if ((i:Int) < (a0.Weights.length:Int)) then (Option.bind (Gt L (a0.Weights.getD (Int.toNat (i:Int)) default) 1 1000) fun r3=>
 (some (!r3))) else none) else none)) fun b2=>
 (bif b2 then (some (0,(2,(i:Int))))
 else (P2 L a0 k (i+1) Ao))))
theorem A2p(L:Nat)(a0:Bj)(n:Nat)(hl:a0.Values.length≤maxLen)(hn:a0.Values.length < n):∀(Ao:Int),Oy L a0 n Ao 0=P2 L a0 a0.Values 0 Ao:=lQ (fun k i n=>∀(Ao:Int),Oy L a0 n Ao (i:Int)=P2 L a0 k i Ao) hl hn (fun n i h Ao=>by simp only [Oy,Abu,P2,D1 h,aN,aB,aC]) (fun n i x k h hx ih Ao=>by simp only [Oy,Abu,P2,Dv h,Ip h,hx,A9 h hl,ih,aN,aB,aC])
def L1(F1:(List Ac)→Option Int)(L:Nat)(a0:List Ac):List Ac→Nat→Int→Option (Nat×Int×Int)
 | [],i,Aj=>(some (0,(Aj,(i:Int))))
 |x::k,i,Aj=>(Option.bind (F1 (x.Body)) fun r1=>
 (Option.bind (F1 (x.Else)) fun r2=>
 (L1 F1 L a0 k (i+1) (Cq ((Cq ((Cq (Aj+1))+r1))+r2)))))
theorem A2s(F1:(List Ac)→Option Int)(L:Nat)(a0:List Ac)(n:Nat)(hl:a0.length≤maxLen)(hn:a0.length < n):∀(Aj:Int),O2 F1 L a0 n Aj 0=L1 F1 L a0 a0 0 Aj:=lQ (fun k i n=>∀(Aj:Int),O2 F1 L a0 n Aj (i:Int)=L1 F1 L a0 k i Aj) hl hn (fun n i h Aj=>by simp only [O2,Abx,L1,D1 h,aN,aB,aC]) (fun n i x k h hx ih Aj=>by simp only [O2,Abx,L1,Dv h,Ip h,hx,A9 h hl,ih,aN,aB,aC])
def L2(F2:(List Ac)→Option Int)(L:Nat)(a0:List Ac):List Ac→Nat→Int→Option (Nat×Int×Int)
 | [],i,Aj=>(some (0,(Aj,(i:Int))))
 |x::k,i,Aj=>(Option.bind (F2 (x.Body)) fun r1=>
 (Option.bind (F2 (x.Else)) fun r2=>
 (L2 F2 L a0 k (i+1) (if (Cq (1+r2)) > (if (Cq (1+r1)) > Aj then (Cq (1+r1)) else Aj) then (Cq (1+r2)) else (if (Cq (1+r1)) > Aj then (Cq (1+r1)) else Aj)))))
theorem A2t(F2:(List Ac)→Option Int)(L:Nat)(a0:List Ac)(n:Nat)(hl:a0.length≤maxLen)(hn:a0.length < n):∀(Aj:Int),O3 F2 L a0 n Aj 0=L2 F2 L a0 a0 0 Aj:=lQ (fun k i n=>∀(Aj:Int),O3 F2 L a0 n Aj (i:Int)=L2 F2 L a0 k i Aj) hl hn (fun n i h Aj=>by simp only [O3,Aby,L2,D1 h,aN,aB,aC]) (fun n i x k h hx ih Aj=>by simp only [O3,Aby,L2,Dv h,Ip h,hx,A9 h hl,ih,aN,aB,aC])
def P3(Ge:Ab→Option Int)(L:Nat)(a0:Ab):List Ab→Nat→Int→Option (Nat×Int×Int)
 | [],i,Ag=>(some (0,(Ag,(i:Int))))
 |x::k,i,Ag=>(Option.bind (Ge x) fun r1=>
 (P3 Ge L a0 k (i+1) (if r1 > Ag then r1 else Ag)))
theorem A2q(Ge:Ab→Option Int)(L:Nat)(a0:Ab)(n:Nat)(hl:a0.Kids.length≤maxLen)(hn:a0.Kids.length < n):∀(Ag:Int),O0 Ge L a0 n Ag 0=P3 Ge L a0 a0.Kids 0 Ag:=lQ (fun k i n=>∀(Ag:Int),O0 Ge L a0 n Ag (i:Int)=P3 Ge L a0 k i Ag) hl hn (fun n i h Ag=>by simp only [O0,Abv,P3,D1 h,aN,aB,aC]) (fun n i x k h hx ih Ag=>by simp only [O0,Abv,P3,Dv h,Ip h,hx,A9 h hl,ih,aN,aB,aC])
def Oc(Bh:Ab→Bool→Option Int)(L:Nat)(a1:Bool)(a0:Ab):List Ab→Nat→Int→Option (Nat×Int×Int)
 | [],i,Ag=>(some (1,(Ag,(i:Int))))
 |x::k,i,Ag=>(Option.bind (Bh x a1) fun r22=>
 (bif (r22 != 0) then (some (0,(r22,(i:Int))))
 else (Oc Bh L a1 a0 k (i+1) Ag)))
theorem A6o(Bh:Ab→Bool→Option Int)(L:Nat)(a1:Bool)(a0:Ab)(n:Nat)(hl:a0.Kids.length≤maxLen)(hn:a0.Kids.length < n):∀(Ag:Int),N7 Bh L a1 a0 n Ag 0=Oc Bh L a1 a0 a0.Kids 0 Ag:=lQ (fun k i n=>∀(Ag:Int),N7 Bh L a1 a0 n Ag (i:Int)=Oc Bh L a1 a0 k i Ag) hl hn (fun n i h Ag=>by simp only [N7,Af4,Oc,D1 h,aN,aB,aC]) (fun n i x k h hx ih Ag=>by simp only [N7,Af4,Oc,Dv h,Ip h,hx,A9 h hl,ih,aN,aB,aC])
def Jf(D9:(List Ac)→Option Int)(L:Nat)(a0:List Ac):List Ac→Nat→Int→Option (Nat×Int×Int)
 | [],i,Ag=>(some (1,(Ag,(i:Int))))
 |x::k,i,Ag=>(Option.bind (Am1 L x) fun r1=>
 (bif (r1 == 0) then (Option.bind (D9 (x.Body)) fun r2=>
 (bif (r2 == 0) then (Option.bind (D9 (x.Else)) fun r3=>
 (bif (r3 != 0) then (some (0,(r3,(i:Int))))
 else (Jf D9 L a0 k (i+1) Ag)))
 else (bif (r2 != 0) then (some (0,(r2,(i:Int))))
 else (Jf D9 L a0 k (i+1) Ag))))
 else (bif (r1 == 0) then (Option.bind (D9 (x.Else)) fun r4=>
 (bif (r4 != 0) then (some (0,(r4,(i:Int))))
 else (Jf D9 L a0 k (i+1) Ag)))
 else (bif (r1 != 0) then (some (0,(r1,(i:Int))))
 else (Jf D9 L a0 k (i+1) Ag)))))
theorem A6r(D9:(List Ac)→Option Int)(L:Nat)(a0:List Ac)(n:Nat)(hl:a0.length≤maxLen)(hn:a0.length < n):∀(Ag:Int),Sh D9 L a0 n Ag 0=Jf D9 L a0 a0 0 Ag:=lQ (fun k i n=>∀(Ag:Int),Sh D9 L a0 n Ag (i:Int)=Jf D9 L a0 k i Ag) hl hn (fun n i h Ag=>by simp only [Sh,Af6,Jf,D1 h,aN,aB,aC]) (fun n i x k h hx ih Ag=>by simp only [Sh,Af6,Jf,Dv h,Ip h,hx,A9 h hl,ih,aN,aB,aC])
def K5(L:Nat)(a0:Ak):List Ap→Nat→Int→List ByteArray→Option (Nat×Int×List ByteArray×Int)
 | [],i,Ao,Ag=>(some (1,(Ao,Ag,(i:Int))))
 |x::k,i,Ao,Ag=>(Option.bind (N1 L (x.Name) Ag) fun r2=>
 (Option.bind (Wz L (x.Type_)) fun r3=>
 (Option.bind (Co L r3 1) fun r4=>
 (Option.bind (C9 L r2 r4) fun r5=>
 (bif (r5 != 0) then (some (0,(r5,Ag,(i:Int))))
 else (if ((Ag.length+ [x.Name].length)*16≤140737488355328) then (if (Ag.length+ [x.Name].length≤maxLen) then (K5 L a0 k (i+1) Ao (Ag++ [x.Name])) else none) else none))))))
theorem Axj(L:Nat)(a0:Ak)(n:Nat)(hl:(a0.Params++a0.Locals).length≤maxLen)(hn:(a0.Params++a0.Locals).length < n):∀(Ao:Int) (Ag:List ByteArray),Kt L a0 n Ao Ag 0=K5 L a0 (a0.Params++a0.Locals) 0 Ao Ag:=lQ (fun k i n=>∀(Ao:Int) (Ag:List ByteArray),Kt L a0 n Ao Ag (i:Int)=K5 L a0 k i Ao Ag) hl hn (fun n i h Ao Ag=>by simp only [Kt,Ys,K5,D1 h,aN,aB,aC]) (fun n i x k h hx ih Ao Ag=>by simp only [Kt,Ys,K5,Dv h,Ip h,hx,A9 h hl,ih,aN,aB,aC])
def L9(L:Nat)(a0:Aa)(r1:Int)(a1:Bm):List Ap→Nat→Int→Option (Nat×Int×Int)
 | [],i,Ao=>(some (1,(Ao,(i:Int))))
 |x::k,i,Ao=>(if ((i:Int) < (a1.Args.length:Int)) then (Option.bind (Ul L (x.Type_) (a1.Args.getD (Int.toNat (i:Int)) default)) fun r2=>
 (bif (!r2) then (some (0,(2,(i:Int))))
 else (L9 L a0 r1 a1 k (i+1) Ao))) else none)
theorem A22(L:Nat)(a0:Aa)(r1:Int)(a1:Bm)(n:Nat)(hl:((a0.Routines.getD (Int.toNat r1) default).Params).length≤maxLen)(hn:((a0.Routines.getD (Int.toNat r1) default).Params).length < n):∀(Ao:Int),Pu L a0 r1 a1 n Ao 0=L9 L a0 r1 a1 ((a0.Routines.getD (Int.toNat r1) default).Params) 0 Ao:=lQ (fun k i n=>∀(Ao:Int),Pu L a0 r1 a1 n Ao (i:Int)=L9 L a0 r1 a1 k i Ao) hl hn (fun n i h Ao=>by simp only [Pu,Ab7,L9,D1 h,aN,aB,aC]) (fun n i x k h hx ih Ao=>by simp only [Pu,Ab7,L9,Dv h,Ip h,hx,A9 h hl,ih,aN,aB,aC])
def Vv(L:Nat)(a1:ByteArray)(r1:List (List ByteArray))(a0:Aa):List ((List ByteArray))→Nat→ByteArray→Option (Nat×ByteArray×Int)
 | [],i,Ag=>(some (1,(Ag,(i:Int))))
 |x::k,i,Ag=>(Option.bind (Mn L x a1) fun r2=>
 (bif (decide (r2≥0)) then (if ((i:Int) < (([(⟨#[118,97,114]⟩:ByteArray),(⟨#[114,101,115,111,117,114,99,101]⟩:ByteArray),(⟨#[115,116,111,114,101]⟩:ByteArray),(⟨#[98,101,108,116]⟩:ByteArray),(⟨#[113,117,101,117,101]⟩:ByteArray),(⟨#[115,116,114,101,97,109]⟩:ByteArray),(⟨#[116,97,108,108,121]⟩:ByteArray),(⟨#[108,101,118,101,108]⟩:ByteArray),(⟨#[99,111,117,110,116]⟩:ByteArray),(⟨#[114,111,117,116,105,110,101]⟩:ByteArray)].length:Nat):Int)) then (some (0,(([(⟨#[118,97,114]⟩:ByteArray),(⟨#[114,101,115,111,117,114,99,101]⟩:ByteArray),(⟨#[115,116,111,114,101]⟩:ByteArray),(⟨#[98,101,108,116]⟩:ByteArray),(⟨#[113,117,101,117,101]⟩:ByteArray),(⟨#[115,116,114,101,97,109]⟩:ByteArray),(⟨#[116,97,108,108,121]⟩:ByteArray),(⟨#[108,101,118,101,108]⟩:ByteArray),(⟨#[99,111,117,110,116]⟩:ByteArray),(⟨#[114,111,117,116,105,110,101]⟩:ByteArray)].getD (Int.toNat (i:Int)) default),(i:Int)))) else none)
 else (Vv L a1 r1 a0 k (i+1) Ag)))
theorem A6s(L:Nat)(a1:ByteArray)(r1:List (List ByteArray))(a0:Aa)(n:Nat)(hl:r1.length≤maxLen)(hn:r1.length < n):∀(Ag:ByteArray),Si L a1 r1 a0 n Ag 0=Vv L a1 r1 a0 r1 0 Ag:=lQ (fun k i n=>∀(Ag:ByteArray),Si L a1 r1 a0 n Ag (i:Int)=Vv L a1 r1 a0 k i Ag) hl hn (fun n i h Ag=>by simp only [Si,Af7,Vv,D1 h,aN,aB,aC]) (fun n i x k h hx ih Ag=>by simp only [Si,Af7,Vv,Dv h,Ip h,hx,A9 h hl,ih,aN,aB,aC])
def Ru(L:Nat)(a0:Aa)(a1:Ba):List Av→Nat→Int→Option (Nat×Int×Int)
 | [],i,Ag=>(some (0,(Ag,(i:Int))))
 |x::k,i,Ag=>(Option.bind (Ajj L a0 x) fun r6=>
 (Option.bind (C9 L Ag r6) fun r7=>
 (Ru L a0 a1 k (i+1) r7)))
theorem A81(L:Nat)(a0:Aa)(a1:Ba)(n:Nat)(hl:a1.Terms.length≤maxLen)(hn:a1.Terms.length < n):∀(Ag:Int),Uv L a0 a1 n Ag 0=Ru L a0 a1 a1.Terms 0 Ag:=lQ (fun k i n=>∀(Ag:Int),Uv L a0 a1 n Ag (i:Int)=Ru L a0 a1 k i Ag) hl hn (fun n i h Ag=>by simp only [Uv,Aiy,Ru,D1 h,aN,aB,aC]) (fun n i x k h hx ih Ag=>by simp only [Uv,Aiy,Ru,Dv h,Ip h,hx,A9 h hl,ih,aN,aB,aC])
def Jg(L:Nat)(r1:List (List ByteArray))(a0:Aa):List ((List ByteArray))→Nat→Int→List ByteArray→Option (Nat×Int×List ByteArray×Int)
 | [],i,Ao,Ag=>(some (1,(Ao,Ag,(i:Int))))
 |x::k,i,Ao,Ag=>(Option.bind (bif (decide ((x.length:Int) > 32)) then (some true)
 else (bif ((i:Int) == 9) then (if (0≤(i:Int)) then (if ((i:Int) < (r1.length:Int)) then (some (decide ((x.length:Int) > 16))) else none) else none)
 else (some false))) fun b2=>
 (bif b2 then (some (0,(6,Ag,(i:Int))))
 else (Option.bind (Ob L r1 (i:Int) a0 L Ao Ag 0) fun o6=>
 (As6 o6.1 [(some (0,(o6.2.1,o6.2.2.1,(i:Int)))),(Jg L r1 a0 k (i+1) o6.2.1 o6.2.2.1)]))))
theorem A6v(L:Nat)(r1:List (List ByteArray))(a0:Aa)(n:Nat)(hl:r1.length≤maxLen)(hn:r1.length < n):∀(Ao:Int) (Ag:List ByteArray),Oa L r1 a0 n Ao Ag 0=Jg L r1 a0 r1 0 Ao Ag:=lQ (fun k i n=>∀(Ao:Int) (Ag:List ByteArray),Oa L r1 a0 n Ao Ag (i:Int)=Jg L r1 a0 k i Ao Ag) hl hn (fun n i h Ao Ag=>by simp only [Oa,Ame,Agn,o0,Jg,D1 h,aN,aB,aC]) (fun n i x k h hx ih Ao Ag=>by simp only [Oa,Ame,Agn,o0,Jg,Dv h,Ip h,hx,A9 h hl,ih,aN,aB,aC])
def Vw(L:Nat)(a0:Aa):List Bm→Nat→Int→Option (Nat×Int×Int)
 | [],i,Hh=>(some (1,(Hh,(i:Int))))
 |x::k,i,Hh=>(Option.bind (Aan L a0 x) fun r8=>
 (bif (r8 != 0) then (some (0,(r8,(i:Int))))
 else (Vw L a0 k (i+1) Hh)))
theorem A6w(L:Nat)(a0:Aa)(n:Nat)(hl:a0.Starts.length≤maxLen)(hn:a0.Starts.length < n):∀(Hh:Int),Sl L a0 n Hh 0=Vw L a0 a0.Starts 0 Hh:=lQ (fun k i n=>∀(Hh:Int),Sl L a0 n Hh (i:Int)=Vw L a0 k i Hh) hl hn (fun n i h Hh=>by simp only [Sl,Agb,Vw,D1 h,aN,aB,aC]) (fun n i x k h hx ih Hh=>by simp only [Sl,Agb,Vw,Dv h,Ip h,hx,A9 h hl,ih,aN,aB,aC])
def Sw(L:Nat)(a0:Aa):List Ba→Nat→Int→List ByteArray→Option (Nat×Int×List ByteArray×Int)
 | [],i,Lr,Kf=>(some (1,(Lr,Kf,(i:Int))))
 |x::k,i,Lr,Kf=>(Option.bind (Am2 L a0 x Kf) fun r10=>
 (bif (r10 != 0) then (some (0,(r10,Kf,(i:Int))))
 else (if ((Kf.length+ [x.Name].length)*16≤140737488355328) then (if (Kf.length+ [x.Name].length≤maxLen) then (Sw L a0 k (i+1) Lr (Kf++ [x.Name])) else none) else none)))
theorem A6x(L:Nat)(a0:Aa)(n:Nat)(hl:a0.Laws.length≤maxLen)(hn:a0.Laws.length < n):∀(Lr:Int) (Kf:List ByteArray),Sm L a0 n Lr Kf 0=Sw L a0 a0.Laws 0 Lr Kf:=lQ (fun k i n=>∀(Lr:Int) (Kf:List ByteArray),Sm L a0 n Lr Kf (i:Int)=Sw L a0 k i Lr Kf) hl hn (fun n i h Lr Kf=>by simp only [Sm,Agc,Sw,D1 h,aN,aB,aC]) (fun n i x k h hx ih Lr Kf=>by simp only [Sm,Agc,Sw,Dv h,Ip h,hx,A9 h hl,ih,aN,aB,aC])
def Sv(L:Nat)(a1:ByteArray)(a0:Ad):List Aa→Nat→Int→Option (Nat×Int×Int)
 | [],i,Ag=>(some (1,(Ag,(i:Int))))
 |x::k,i,Ag=>(bif ((x.Name).toList == a1.toList) then (some (0,((i:Int),(i:Int))))
 else (Sv L a1 a0 k (i+1) Ag))
theorem A6u(L:Nat)(a1:ByteArray)(a0:Ad)(n:Nat)(hl:a0.Sites.length≤maxLen)(hn:a0.Sites.length < n):∀(Ag:Int),Sk L a1 a0 n Ag 0=Sv L a1 a0 a0.Sites 0 Ag:=lQ (fun k i n=>∀(Ag:Int),Sk L a1 a0 n Ag (i:Int)=Sv L a1 a0 k i Ag) hl hn (fun n i h Ag=>by simp only [Sk,Af9,Sv,D1 h,aN,aB,aC]) (fun n i x k h hx ih Ag=>by simp only [Sk,Af9,Sv,Dv h,Ip h,hx,A9 h hl,ih,aN,aB,aC])
def L8(L:Nat)(a0:Ad):List Bl→Nat→Int→Option (Nat×Int×Int)
 | [],i,Ao=>(some (1,(Ao,(i:Int))))
 |x::k,i,Ao=>(Option.bind (Wy L a0 (x.From)) fun r1=>
 (Option.bind (bif (decide (r1 < 0)) then (some true)
 else (Option.bind (Wy L a0 (x.To)) fun r3=>
 (some (decide (r3 < 0))))) fun b2=>
 (bif b2 then (some (0,(5,(i:Int))))
 else (bif ((x.From).toList == (x.To).toList) then (some (0,(1,(i:Int))))
 else (Option.bind (D2 L (x.Delay) 1 1000000000) fun r4=>
 (bif (!r4) then (some (0,(2,(i:Int))))
 else (Option.bind (Lx L (i:Int) a0 L Ao 0) fun o5=>
 (As6 o5.1 [(some (0,(o5.2.1,(i:Int)))),(L8 L a0 k (i+1) o5.2.1)]))))))))
theorem A21(L:Nat)(a0:Ad)(n:Nat)(hl:a0.Links.length≤maxLen)(hn:a0.Links.length < n):∀(Ao:Int),Lw L a0 n Ao 0=L8 L a0 a0.Links 0 Ao:=lQ (fun k i n=>∀(Ao:Int),Lw L a0 n Ao (i:Int)=L8 L a0 k i Ao) hl hn (fun n i h Ao=>by simp only [Lw,Aj7,Adk,Xv,L8,D1 h,aN,aB,aC]) (fun n i x k h hx ih Ao=>by simp only [Lw,Aj7,Adk,Xv,L8,Dv h,Ip h,hx,A9 h hl,ih,aN,aB,aC])
def P5(L:Nat)(a0:Ad):List Al→Nat→Int→Int→List ByteArray→Option (Nat×Int×Int×List ByteArray×Int)
 | [],i,Ao,Ag,Aj=>(some (1,(Ao,Ag,Aj,(i:Int))))
 |x::k,i,Ao,Ag,Aj=>(Option.bind (Agu L x Aj) fun r4=>
 (bif (r4 != 0) then (some (0,(r4,r4,Aj,(i:Int))))
 else (if ((Aj.length+ [x.Name].length)*16≤140737488355328) then (if (Aj.length+ [x.Name].length≤maxLen) then (P5 L a0 k (i+1) Ao r4 (Aj++ [x.Name])) else none) else none)))
theorem A2u(L:Nat)(a0:Ad)(n:Nat)(hl:a0.Params.length≤maxLen)(hn:a0.Params.length < n):∀(Ao:Int) (Ag:Int) (Aj:List ByteArray),O4 L a0 n Ao Ag Aj 0=P5 L a0 a0.Params 0 Ao Ag Aj:=lQ (fun k i n=>∀(Ao:Int) (Ag:Int) (Aj:List ByteArray),O4 L a0 n Ao Ag Aj (i:Int)=P5 L a0 k i Ao Ag Aj) hl hn (fun n i h Ao Ag Aj=>by simp only [O4,Abz,P5,D1 h,aN,aB,aC]) (fun n i x k h hx ih Ao Ag Aj=>by simp only [O4,Abz,P5,Dv h,Ip h,hx,A9 h hl,ih,aN,aB,aC])
def P6(L:Nat)(a0:Ad):List Aa→Nat→Int→Int→List ByteArray→Option (Nat×Int×Int×List ByteArray×Int)
 | [],i,Bz,Ct,Gk=>(some (1,(Bz,Ct,Gk,(i:Int))))
 |x::k,i,Bz,Ct,Gk=>(Option.bind (N1 L (x.Name) Gk) fun r9=>
 (Option.bind (Aji L x) fun r10=>
 (Option.bind (C9 L r9 r10) fun r11=>
 (bif (r11 != 0) then (some (0,(r11,r11,Gk,(i:Int))))
 else (if ((Gk.length+ [x.Name].length)*16≤140737488355328) then (if (Gk.length+ [x.Name].length≤maxLen) then (P6 L a0 k (i+1) Bz r11 (Gk++ [x.Name])) else none) else none)))))
theorem A2v(L:Nat)(a0:Ad)(n:Nat)(hl:a0.Sites.length≤maxLen)(hn:a0.Sites.length < n):∀(Bz:Int) (Ct:Int) (Gk:List ByteArray),O7 L a0 n Bz Ct Gk 0=P6 L a0 a0.Sites 0 Bz Ct Gk:=lQ (fun k i n=>∀(Bz:Int) (Ct:Int) (Gk:List ByteArray),O7 L a0 n Bz Ct Gk (i:Int)=P6 L a0 k i Bz Ct Gk) hl hn (fun n i h Bz Ct Gk=>by simp only [O7,Ab0,P6,D1 h,aN,aB,aC]) (fun n i x k h hx ih Bz Ct Gk=>by simp only [O7,Ab0,P6,Dv h,Ip h,hx,A9 h hl,ih,aN,aB,aC])
def M5(L:Nat)(a0:List Al)(a1:ByteArray):List Al→Nat→Int→Bool→Option (Nat×Int×Bool×Int)
 | [],i,Aj,Ai=>(some (1,(Aj,Ai,(i:Int))))
 |x::k,i,Aj,Ai=>(bif ((x.Name).toList == a1.toList) then (some (0,((x.Type_),true,(i:Int))))
 else (M5 L a0 a1 k (i+1) Aj Ai))
theorem Azf(L:Nat)(a0:List Al)(a1:ByteArray)(n:Nat)(hl:a0.length≤maxLen)(hn:a0.length < n):∀(Aj:Int) (Ai:Bool),Mo L a0 a1 n Aj Ai 0=M5 L a0 a1 a0 0 Aj Ai:=lQ (fun k i n=>∀(Aj:Int) (Ai:Bool),Mo L a0 a1 n Aj Ai (i:Int)=M5 L a0 a1 k i Aj Ai) hl hn (fun n i h Aj Ai=>by simp only [Mo,u5,M5,D1 h,aN,aB,aC]) (fun n i x k h hx ih Aj Ai=>by simp only [Mo,u5,M5,Dv h,Ip h,hx,A9 h hl,ih,aN,aB,aC])
def Mb(Gb:Ar→Ab→Option (Int×Int))(L:Nat)(a0:Ar)(a1:Ab):List Ab→Nat→Int→Int→List Int→Option (Nat×Int×Int×List Int×Int)
 | [],i,Ao,Ag,Aj=>(some (1,(Ao,Ag,Aj,(i:Int))))
 |x::k,i,Ao,Ag,Aj=>(Option.bind (Gb a0 x) fun r1=>
 (bif (r1.2 != 0) then (some (0,(0,r1.2,Aj,(i:Int))))
 else (if ((Aj.length+ [r1.1].length)*8≤140737488355328) then (if (Aj.length+ [r1.1].length≤maxLen) then (Mb Gb L a0 a1 k (i+1) Ao Ag (Aj++ [r1.1])) else none) else none)))
theorem A25(Gb:Ar→Ab→Option (Int×Int))(L:Nat)(a0:Ar)(a1:Ab)(n:Nat)(hl:a1.Kids.length≤maxLen)(hn:a1.Kids.length < n):∀(Ao:Int) (Ag:Int) (Aj:List Int),Px Gb L a0 a1 n Ao Ag Aj 0=Mb Gb L a0 a1 a1.Kids 0 Ao Ag Aj:=lQ (fun k i n=>∀(Ao:Int) (Ag:Int) (Aj:List Int),Px Gb L a0 a1 n Ao Ag Aj (i:Int)=Mb Gb L a0 a1 k i Ao Ag Aj) hl hn (fun n i h Ao Ag Aj=>by simp only [Px,Aca,Mb,D1 h,aN,aB,aC]) (fun n i x k h hx ih Ao Ag Aj=>by simp only [Px,Aca,Mb,Dv h,Ip h,hx,A9 h hl,ih,aN,aB,aC])
def Sx(L:Nat)(a2:List Ap)(a0:Ar)(a1:Ac):List Ap→Nat→Int→Option (Nat×Int×Int)
 | [],i,Ag=>(some (1,(Ag,(i:Int))))
 |x::k,i,Ag=>(if ((i:Int) < (a1.Args.length:Int)) then (Option.bind (Iy L a0 (a1.Args.getD (Int.toNat (i:Int)) default) (x.Type_) (x.Type_)) fun r1=>
 (bif (r1 != 0) then (some (0,(r1,(i:Int))))
 else (Sx L a2 a0 a1 k (i+1) Ag))) else none)
theorem A6y(L:Nat)(a2:List Ap)(a0:Ar)(a1:Ac)(n:Nat)(hl:a2.length≤maxLen)(hn:a2.length < n):∀(Ag:Int),Sn L a2 a0 a1 n Ag 0=Sx L a2 a0 a1 a2 0 Ag:=lQ (fun k i n=>∀(Ag:Int),Sn L a2 a0 a1 n Ag (i:Int)=Sx L a2 a0 a1 k i Ag) hl hn (fun n i h Ag=>by simp only [Sn,Agd,Sx,D1 h,aN,aB,aC]) (fun n i x k h hx ih Ag=>by simp only [Sn,Agd,Sx,Dv h,Ip h,hx,A9 h hl,ih,aN,aB,aC])
def Su(L:Nat)(a1:ByteArray)(a2:ByteArray)(a0:Ad):List Bl→Nat→Int→Bool→Option (Nat×Int×Bool×Int)
 | [],i,Aj,Ai=>(some (1,(Aj,Ai,(i:Int))))
 |x::k,i,Aj,Ai=>(Option.bind (bif ((x.From).toList == a1.toList) then (if (0≤(i:Int)) then (if ((i:Int) < (a0.Links.length:Int)) then (some ((x.To).toList == a2.toList)) else none) else none)
 else (some false)) fun b1=>
 (bif b1 then (some (0,((x.Delay),true,(i:Int))))
 else (Su L a1 a2 a0 k (i+1) Aj Ai)))
theorem A6t(L:Nat)(a1:ByteArray)(a2:ByteArray)(a0:Ad)(n:Nat)(hl:a0.Links.length≤maxLen)(hn:a0.Links.length < n):∀(Aj:Int) (Ai:Bool),Sj L a1 a2 a0 n Aj Ai 0=Su L a1 a2 a0 a0.Links 0 Aj Ai:=lQ (fun k i n=>∀(Aj:Int) (Ai:Bool),Sj L a1 a2 a0 n Aj Ai (i:Int)=Su L a1 a2 a0 k i Aj Ai) hl hn (fun n i h Aj Ai=>by simp only [Sj,Af8,Su,D1 h,aN,aB,aC]) (fun n i x k h hx ih Aj Ai=>by simp only [Sj,Af8,Su,Dv h,Ip h,hx,A9 h hl,ih,aN,aB,aC])
def Ib(Hr:Ad→Ar→(List Ac)→Option Int)(L:Nat)(a2:List Ac)(a0:Ad)(a1:Ar):List Ac→Nat→Int→Option (Nat×Int×Int)
 | [],i,Ag=>(some (1,(Ag,(i:Int))))
 |x::k,i,Ag=>(Option.bind (Ajl L a0 a1 x) fun r1=>
 (bif (r1 == 0) then (Option.bind (Hr a0 a1 (x.Body)) fun r2=>
 (bif (r2 == 0) then (Option.bind (Hr a0 a1 (x.Else)) fun r3=>
 (bif (r3 != 0) then (some (0,(r3,(i:Int))))
 else (Ib Hr L a2 a0 a1 k (i+1) Ag)))
 else (bif (r2 != 0) then (some (0,(r2,(i:Int))))
 else (Ib Hr L a2 a0 a1 k (i+1) Ag))))
 else (bif (r1 == 0) then (Option.bind (Hr a0 a1 (x.Else)) fun r4=>
 (bif (r4 != 0) then (some (0,(r4,(i:Int))))
 else (Ib Hr L a2 a0 a1 k (i+1) Ag)))
 else (bif (r1 != 0) then (some (0,(r1,(i:Int))))
 else (Ib Hr L a2 a0 a1 k (i+1) Ag)))))
theorem A24(Hr:Ad→Ar→(List Ac)→Option Int)(L:Nat)(a2:List Ac)(a0:Ad)(a1:Ar)(n:Nat)(hl:a2.length≤maxLen)(hn:a2.length < n):∀(Ag:Int),Pw Hr L a2 a0 a1 n Ag 0=Ib Hr L a2 a0 a1 a2 0 Ag:=lQ (fun k i n=>∀(Ag:Int),Pw Hr L a2 a0 a1 n Ag (i:Int)=Ib Hr L a2 a0 a1 k i Ag) hl hn (fun n i h Ag=>by simp only [Pw,Ab9,Ib,D1 h,aN,aB,aC]) (fun n i x k h hx ih Ag=>by simp only [Pw,Ab9,Ib,Dv h,Ip h,hx,A9 h hl,ih,aN,aB,aC])
def Ma(L:Nat)(a0:Ad):List Aa→Nat→Int→Option (Nat×Int×Int)
 | [],i,Ag=>(some (0,(Ag,(i:Int))))
 |x::k,i,Ag=>(Option.bind (Lz L (i:Int) a0 L Ag 0) fun o4=>
 (As6 o4.1 [(Ma L a0 k (i+1) o4.2.1)]))
theorem A23(L:Nat)(a0:Ad)(n:Nat)(hl:a0.Sites.length≤maxLen)(hn:a0.Sites.length < n):∀(Ag:Int),Ly L a0 n Ag 0=Ma L a0 a0.Sites 0 Ag:=lQ (fun k i n=>∀(Ag:Int),Ly L a0 n Ag (i:Int)=Ma L a0 k i Ag) hl hn (fun n i h Ag=>by simp only [Ly,Aj8,Adn,Xz,Ma,D1 h,aN,aB,aC]) (fun n i x k h hx ih Ag=>by simp only [Ly,Aj8,Adn,Xz,Ma,Dv h,Ip h,hx,A9 h hl,ih,aN,aB,aC])
def P8(L:Nat)(a1:ByteArray)(a0:Ad):List Al→Nat→Int→Bool→Option (Nat×Int×Bool×Int)
 | [],i,Ag,Aj=>(some (1,(Ag,Aj,(i:Int))))
 |x::k,i,Ag,Aj=>(bif ((x.Name).toList == a1.toList) then (some (0,((x.Type_),true,(i:Int))))
 else (P8 L a1 a0 k (i+1) Ag Aj))
theorem A27(L:Nat)(a1:ByteArray)(a0:Ad)(n:Nat)(hl:a0.Params.length≤maxLen)(hn:a0.Params.length < n):∀(Ag:Int) (Aj:Bool),Pz L a1 a0 n Ag Aj 0=P8 L a1 a0 a0.Params 0 Ag Aj:=lQ (fun k i n=>∀(Ag:Int) (Aj:Bool),Pz L a1 a0 n Ag Aj (i:Int)=P8 L a1 a0 k i Ag Aj) hl hn (fun n i h Ag Aj=>by simp only [Pz,Acd,P8,D1 h,aN,aB,aC]) (fun n i x k h hx ih Ag Aj=>by simp only [Pz,Acd,P8,Dv h,Ip h,hx,A9 h hl,ih,aN,aB,aC])
def Rv(L:Nat)(r1:Int×Bool)(a1:List Ah)(a2:Int)(a0:Ad):List Int→Nat→Int→Option (Nat×Int×Int)
 | [],i,Bz=>(some (1,(Bz,(i:Int))))
 |x::k,i,Bz=>(Option.bind (Ul L r1.1 x) fun r3=>
 (bif (!r3) then (some (0,(2,(i:Int))))
 else (bif (decide ((i:Int) > 0)) then (if (0≤(Cq ((i:Int) - 1))) then (if ((Cq ((i:Int) - 1)) < ((((a1.getD (Int.toNat a2) default).Levels).length:Nat):Int)) then (bif (decide (x≤(((a1.getD (Int.toNat a2) default).Levels).getD (Int.toNat (Cq ((i:Int) - 1))) default))) then (some (0,(12,(i:Int))))
 else (Rv L r1 a1 a2 a0 k (i+1) Bz)) else none) else none)
 else (Rv L r1 a1 a2 a0 k (i+1) Bz))))
theorem A82(L:Nat)(r1:Int×Bool)(a1:List Ah)(a2:Int)(a0:Ad)(n:Nat)(hl:((a1.getD (Int.toNat a2) default).Levels).length≤maxLen)(hn:((a1.getD (Int.toNat a2) default).Levels).length < n):∀(Bz:Int),Ux L r1 a1 a2 a0 n Bz 0=Rv L r1 a1 a2 a0 ((a1.getD (Int.toNat a2) default).Levels) 0 Bz:=lQ (fun k i n=>∀(Bz:Int),Ux L r1 a1 a2 a0 n Bz (i:Int)=Rv L r1 a1 a2 a0 k i Bz) hl hn (fun n i h Bz=>by simp only [Ux,Ai0,Rv,D1 h,aN,aB,aC]) (fun n i x k h hx ih Bz=>by simp only [Ux,Ai0,Rv,Dv h,Ip h,hx,A9 h hl,ih,aN,aB,aC])
def Sy(L:Nat)(a0:List Ah):List Ah→Nat→Int→Option (Nat×Int×Int)
 | [],i,Aj=>(some (0,(Aj,(i:Int))))
 |x::k,i,Aj=>(Option.bind (Am0 L Aj ((x.Levels).length:Int)) fun r1=>
 (Sy L a0 k (i+1) r1))
theorem A6z(L:Nat)(a0:List Ah)(n:Nat)(hl:a0.length≤maxLen)(hn:a0.length < n):∀(Aj:Int),So L a0 n Aj 0=Sy L a0 a0 0 Aj:=lQ (fun k i n=>∀(Aj:Int),So L a0 n Aj (i:Int)=Sy L a0 k i Aj) hl hn (fun n i h Aj=>by simp only [So,Age,Sy,D1 h,aN,aB,aC]) (fun n i x k h hx ih Aj=>by simp only [So,Age,Sy,Dv h,Ip h,hx,A9 h hl,ih,aN,aB,aC])
def P7(L:Nat)(a1:List Ah)(a0:Ad):List Ah→Nat→Int→Int→Option (Nat×Int×Int×Int)
 | [],i,Ag,Aj=>(some (1,(Ag,Aj,(i:Int))))
 |x::k,i,Ag,Aj=>(Option.bind (Am3 L a0 a1 (i:Int)) fun r2=>
 (bif (r2 != 0) then (some (0,(r2,r2,(i:Int))))
 else (P7 L a1 a0 k (i+1) Ag r2)))
theorem A26(L:Nat)(a1:List Ah)(a0:Ad)(n:Nat)(hl:a1.length≤maxLen)(hn:a1.length < n):∀(Ag:Int) (Aj:Int),Py L a1 a0 n Ag Aj 0=P7 L a1 a0 a1 0 Ag Aj:=lQ (fun k i n=>∀(Ag:Int) (Aj:Int),Py L a1 a0 n Ag Aj (i:Int)=P7 L a1 a0 k i Ag Aj) hl hn (fun n i h Ag Aj=>by simp only [Py,Acb,P7,D1 h,aN,aB,aC]) (fun n i x k h hx ih Ag Aj=>by simp only [Py,Acb,P7,Dv h,Ip h,hx,A9 h hl,ih,aN,aB,aC])
end Go.Proofs.YtfencmicmnhglaaGreat.Ev
