import Derived.Test.YtogleahbpobaiaaGreatG1
import Derived.Test.YtogleahbpobaiaaGreatPa
import Derived.Test.YtogleahbpobaiaaGreatG2
import Derived.Test.YtogleahbpobaiaaGreatG3
import Derived.Test.YtogleahbpobaiaaGreatG4
import Derived.Test.YtogleahbpobaiaaGreatG5
import Derived.Test.YtogleahbpobaiaaGreatG6
import Derived.Test.YtogleahbpobaiaaGreatG7
import Derived.Test.YtogleahbpobaiaaGreatG8
import Derived.Test.YtogleahbpobaiaaGreatG9
import Derived.Test.YtogleahbpobaiaaGreatG10
import Derived.Test.YtogleahbpobaiaaGreatG11
import Derived.Test.YtogleahbpobaiaaGreatG12
import Derived.Test.YtogleahbpobaiaaGreatG13
import Derived.Test.YtogleahbpobaiaaGreatG14
namespace Go.Proofs.YtogleahbpobaiaaGreat.Ev
open Go An
set_option maxRecDepth 100000
set_option maxHeartbeats 4000000
set_option linter.unusedVariables false
set_option linter.unusedSimpArgs false
set_option linter.unnecessarySimpa false
def Lg(Gz:(List Ac)→Option Int)(L:Nat)(a0:List Ac):List Ac→Nat→Int→Option (Nat×Int×Int)
 | [],i,Am=>(some (0,(Am,(i:Int))))
 |x::k,i,Am=>(Option.bind (Gz (x.Body)) fun r1=>
 (Option.bind (Gz (x.Else)) fun r2=>
 (Lg Gz L a0 k (i+1) (Da ((Da ((Da (Am+1))+r1))+r2)))))
theorem A0h(Gz:(List Ac)→Option Int)(L:Nat)(a0:List Ac)(n:Nat)(hl:a0.length≤maxLen)(hn:a0.length < n):∀(Am:Int),N8 Gz L a0 n Am 0=Lg Gz L a0 a0 0 Am:=lQ (fun k i n=>∀(Am:Int),N8 Gz L a0 n Am (i:Int)=Lg Gz L a0 k i Am) hl hn (fun n i h Am=>by simp only [N8,Aaa,Lg,Eo h,aN,aB,cond_false]) (fun n i x k h hx ih Am=>by simp only [N8,Aaa,Lg,Ed h,nn,Ky h,Ix,hx,Bb h hl,ih,aN,aB,cond_true,if_true,decide_true,Ab.eta,Ab.cp_eq,Ac.eta,Ac.cp_eq])
def Th(L:Nat)(a0:Ad):List Aa→Nat→Bool→Int→Option (Nat×Bool×Int×Int)
 | [],i,Ak,Ag=>(some (1,(Ak,Ag,(i:Int))))
 |x::k,i,Ak,Ag=>(Option.bind (Afi L (⟨a0.Params,[],x⟩:Aq)) fun r1=>
 (bif (!r1) then (some (0,(false,Ag,(i:Int))))
 else (Option.bind (W6 L Ak (i:Int) a0 L Ag 0) fun o3=>
 (Arf o3.1 [(Th L a0 k (i+1) Ak o3.2.1)]))))
theorem A5x(L:Nat)(a0:Ad)(n:Nat)(hl:a0.Sites.length≤maxLen)(hn:a0.Sites.length < n):∀(Ak:Bool) (Ag:Int),Qe L a0 n Ak Ag 0=Th L a0 a0.Sites 0 Ak Ag:=lQ (fun k i n=>∀(Ak:Bool) (Ag:Int),Qe L a0 n Ak Ag (i:Int)=Th L a0 k i Ak Ag) hl hn (fun n i h Ak Ag=>by simp only [Qe,An1,Ahp,Aax,Th,Eo h,aN,aB,cond_false]) (fun n i x k h hx ih Ak Ag=>by simp only [Qe,An1,Ahp,Aax,Th,Ed h,nn,Ky h,Ix,hx,Bb h hl,ih,aN,aB,cond_true,if_true,decide_true,Ab.eta,Ab.cp_eq,Ac.eta,Ac.cp_eq])
def D2(L:Nat)(a0:Af):List Cu→Nat→Int→Option (Nat×Int×Int)
 | [],i,Ak=>(some (1,(Ak,(i:Int))))
 |x::k,i,Ak=>(Option.bind (Bi L (x.At) 0 (Da (a0.Cycle - 1))) fun r2=>
 (bif (!r2) then (bif (!r2) then (some (0,(2,(i:Int))))
 else (bif (decide ((i:Int) > 0)) then (if (0≤(Da ((i:Int) - 1))) then (if ((Da ((i:Int) - 1)) < (a0.Shift.length:Int)) then (bif (decide (x.At≤(a0.Shift.getD (Int.toNat (Da ((i:Int) - 1))) default).At)) then (some (0,(12,(i:Int))))
 else (D2 L a0 k (i+1) Ak)) else none) else none)
 else (D2 L a0 k (i+1) Ak)))
 else (Option.bind (Bi L (x.Units) 0 1000) fun r3=>
 (bif (!r3) then (some (0,(2,(i:Int))))
 else (bif (decide ((i:Int) > 0)) then (if (0≤(Da ((i:Int) - 1))) then (if ((Da ((i:Int) - 1)) < (a0.Shift.length:Int)) then (bif (decide (x.At≤(a0.Shift.getD (Int.toNat (Da ((i:Int) - 1))) default).At)) then (some (0,(12,(i:Int))))
 else (D2 L a0 k (i+1) Ak)) else none) else none)
 else (D2 L a0 k (i+1) Ak))))))
theorem Aqv(L:Nat)(a0:Af)(n:Nat)(hl:a0.Shift.length≤maxLen)(hn:a0.Shift.length < n):∀(Ak:Int),Hh L a0 n Ak 0=D2 L a0 a0.Shift 0 Ak:=lQ (fun k i n=>∀(Ak:Int),Hh L a0 n Ak (i:Int)=D2 L a0 k i Ak) hl hn (fun n i h Ak=>by simp only [Hh,Rs,D2,Eo h,aN,aB,cond_false]) (fun n i x k h hx ih Ak=>by simp only [Hh,Rs,D2,Ed h,nn,Ky h,Ix,hx,Bb h hl,ih,aN,aB,cond_true,if_true,decide_true,Ab.eta,Ab.cp_eq,Ac.eta,Ac.cp_eq])
def F9(L:Nat)(a0:List Int)(a1:List Int):List Int→Nat→Bool→Option (Nat×Bool×Int)
 | [],i,Am=>(some (1,(Am,(i:Int))))
 |x::k,i,Am=>(if ((i:Int) < (a1.length:Int)) then (bif (x != (a1.getD (Int.toNat (i:Int)) default)) then (some (0,(false,(i:Int))))
 else (F9 L a0 a1 k (i+1) Am)) else none)
theorem An3(L:Nat)(a0:List Int)(a1:List Int)(n:Nat)(hl:a0.length≤maxLen)(hn:a0.length < n):∀(Am:Bool),F8 L a0 a1 n Am 0=F9 L a0 a1 a0 0 Am:=lQ (fun k i n=>∀(Am:Bool),F8 L a0 a1 n Am (i:Int)=F9 L a0 a1 k i Am) hl hn (fun n i h Am=>by simp only [F8,O0,F9,Eo h,aN,aB,cond_false]) (fun n i x k h hx ih Am=>by simp only [F8,O0,F9,Ed h,nn,Ky h,Ix,hx,Bb h hl,ih,aN,aB,cond_true,if_true,decide_true,Ab.eta,Ab.cp_eq,Ac.eta,Ac.cp_eq])
def Ei(L:Nat)(a0:List ByteArray)(a1:ByteArray):List ByteArray→Nat→Int→Option (Nat×Int×Int)
 | [],i,Am=>(some (1,(Am,(i:Int))))
 |x::k,i,Am=>(bif (a1.toList == x.toList) then (some (0,((i:Int),(i:Int))))
 else (Ei L a0 a1 k (i+1) Am))
theorem Ai9(L:Nat)(a0:List ByteArray)(a1:ByteArray)(n:Nat)(hl:a0.length≤maxLen)(hn:a0.length < n):∀(Am:Int),Ee L a0 a1 n Am 0=Ei L a0 a1 a0 0 Am:=lQ (fun k i n=>∀(Am:Int),Ee L a0 a1 n Am (i:Int)=Ei L a0 a1 k i Am) hl hn (fun n i h Am=>by simp only [Ee,Kv,Ei,Eo h,aN,aB,cond_false]) (fun n i x k h hx ih Am=>by simp only [Ee,Kv,Ei,Ed h,nn,Ky h,Ix,hx,Bb h hl,ih,aN,aB,cond_true,if_true,decide_true,Ab.eta,Ab.cp_eq,Ac.eta,Ac.cp_eq])
def Kj(L:Nat)(p1_0:List Int)(p1_1:Int)(p1_2:Int):List Int→Nat→Int→Option (Nat×Int×Int)
 | [],i,Ag=>(some (1,(Ag,(i:Int))))
 |x::k,i,Ag=>((fun b1=>
 (bif b1 then (some (0,((i:Int),(i:Int))))
 else (Kj L p1_0 p1_1 p1_2 k (i+1) Ag))) (bif (decide (x < p1_1)) then true
 else (decide (x > p1_2))))
theorem Avl(L:Nat)(p1_0:List Int)(p1_1:Int)(p1_2:Int)(n:Nat)(hl:p1_0.length≤maxLen)(hn:p1_0.length < n):∀(Ag:Int),J8 L p1_0 p1_1 p1_2 n Ag 0=Kj L p1_0 p1_1 p1_2 p1_0 0 Ag:=lQ (fun k i n=>∀(Ag:Int),J8 L p1_0 p1_1 p1_2 n Ag (i:Int)=Kj L p1_0 p1_1 p1_2 k i Ag) hl hn (fun n i h Ag=>by simp only [J8,Ww,Kj,Eo h,aN,aB,cond_false]) (fun n i x k h hx ih Ag=>by simp only [J8,Ww,Kj,Ed h,nn,Ky h,Ix,hx,Bb h hl,ih,aN,aB,cond_true,if_true,decide_true,Ab.eta,Ab.cp_eq,Ac.eta,Ac.cp_eq])
def D9(L:Nat)(a0:List (List Ao)):List ((List Ao))→Nat→Int→Option (Nat×Int×Int)
 | [],i,Am=>(some (0,(Am,(i:Int))))
 |x::k,i,Am=>(bif (decide ((Da (Am+(x.length:Int))) < 0)) then none
 else (D9 L a0 k (i+1) (Da (Am+(x.length:Int)))))
theorem Aft(L:Nat)(a0:List (List Ao))(n:Nat)(hl:a0.length≤maxLen)(hn:a0.length < n):∀(Am:Int),Df L a0 n Am 0=D9 L a0 a0 0 Am:=lQ (fun k i n=>∀(Am:Int),Df L a0 n Am (i:Int)=D9 L a0 k i Am) hl hn (fun n i h Am=>by simp only [Df,H4,D9,Eo h,aN,aB,cond_false]) (fun n i x k h hx ih Am=>by simp only [Df,H4,D9,Ed h,nn,Ky h,Ix,hx,Bb h hl,ih,aN,aB,cond_true,if_true,decide_true,Ab.eta,Ab.cp_eq,Ac.eta,Ac.cp_eq])
def Ea(L:Nat)(a0:List (List Ao)):List ((List Ao))→Nat→List Ao→Option (Nat×List Ao×Int)
 | [],i,C1=>(some (0,(C1,(i:Int))))
 |x::k,i,C1=>(if ((C1.length+x.length)*24≤140737488355328) then (if (C1.length+x.length≤maxLen) then (Ea L a0 k (i+1) (C1++x)) else none) else none)
theorem Afu(L:Nat)(a0:List (List Ao))(n:Nat)(hl:a0.length≤maxLen)(hn:a0.length < n):∀(C1:List Ao),Dg L a0 n C1 0=Ea L a0 a0 0 C1:=lQ (fun k i n=>∀(C1:List Ao),Dg L a0 n C1 (i:Int)=Ea L a0 k i C1) hl hn (fun n i h C1=>by simp only [Dg,H5,Ea,Eo h,aN,aB,cond_false]) (fun n i x k h hx ih C1=>by simp only [Dg,H5,Ea,Ed h,nn,Ky h,Ix,hx,Bb h hl,ih,aN,aB,cond_true,if_true,decide_true,Ab.eta,Ab.cp_eq,Ac.eta,Ac.cp_eq])
def Ju(Hb:(List Ac)→Option Int)(L:Nat)(a0:List Ac):List Ac→Nat→Int→Option (Nat×Int×Int)
 | [],i,Ag=>(some (0,(Ag,(i:Int))))
 |x::k,i,Ag=>(Option.bind (Hb (x.Body)) fun r1=>
 (Option.bind (Hb (x.Else)) fun r2=>
 (Ju Hb L a0 k (i+1) (Da (Ag+(Da (r1+r2)))))))
theorem Axr(Hb:(List Ac)→Option Int)(L:Nat)(a0:List Ac)(n:Nat)(hl:a0.length≤maxLen)(hn:a0.length < n):∀(Ag:Int),Md Hb L a0 n Ag 0=Ju Hb L a0 a0 0 Ag:=lQ (fun k i n=>∀(Ag:Int),Md Hb L a0 n Ag (i:Int)=Ju Hb L a0 k i Ag) hl hn (fun n i h Ag=>by simp only [Md,Zj,Ju,Eo h,aN,aB,cond_false]) (fun n i x k h hx ih Ag=>by simp only [Md,Zj,Ju,Ed h,nn,Ky h,Ix,hx,Bb h hl,ih,aN,aB,cond_true,if_true,decide_true,Ab.eta,Ab.cp_eq,Ac.eta,Ac.cp_eq])
def Jv(Hc:(List Ac)→Option Int)(L:Nat)(a0:List Ac):List Ac→Nat→Int→Option (Nat×Int×Int)
 | [],i,Ag=>(some (0,(Ag,(i:Int))))
 |x::k,i,Ag=>(Option.bind (Hc (x.Body)) fun r1=>
 (Option.bind (Hc (x.Else)) fun r2=>
 (Jv Hc L a0 k (i+1) (if (Da (1+r2)) > (if (Da (1+r1)) > Ag then (Da (1+r1)) else Ag) then (Da (1+r2)) else (if (Da (1+r1)) > Ag then (Da (1+r1)) else Ag)))))
theorem Axs(Hc:(List Ac)→Option Int)(L:Nat)(a0:List Ac)(n:Nat)(hl:a0.length≤maxLen)(hn:a0.length < n):∀(Ag:Int),Me Hc L a0 n Ag 0=Jv Hc L a0 a0 0 Ag:=lQ (fun k i n=>∀(Ag:Int),Me Hc L a0 n Ag (i:Int)=Jv Hc L a0 k i Ag) hl hn (fun n i h Ag=>by simp only [Me,Zk,Jv,Eo h,aN,aB,cond_false]) (fun n i x k h hx ih Ag=>by simp only [Me,Zk,Jv,Ed h,nn,Ky h,Ix,hx,Bb h hl,ih,aN,aB,cond_true,if_true,decide_true,Ab.eta,Ab.cp_eq,Ac.eta,Ac.cp_eq])
def R9(El:Ab→Ab→Option Bool)(L:Nat)(a0:Ab)(a1:Ab):List Ab→Nat→Bool→Option (Nat×Bool×Int)
 | [],i,Ak=>(some (1,(Ak,(i:Int))))
 |x::k,i,Ak=>(if ((i:Int) < (a1.Kids.length:Int)) then (Option.bind (El x (a1.Kids.getD (Int.toNat (i:Int)) default)) fun r4=>
 (bif (!r4) then (some (0,(false,(i:Int))))
 else (R9 El L a0 a1 k (i+1) Ak))) else none)
theorem A0v(El:Ab→Ab→Option Bool)(L:Nat)(a0:Ab)(a1:Ab)(n:Nat)(hl:a0.Kids.length≤maxLen)(hn:a0.Kids.length < n):∀(Ak:Bool),Om El L a0 a1 n Ak 0=R9 El L a0 a1 a0.Kids 0 Ak:=lQ (fun k i n=>∀(Ak:Bool),Om El L a0 a1 n Ak (i:Int)=R9 El L a0 a1 k i Ak) hl hn (fun n i h Ak=>by simp only [Om,Aao,R9,Eo h,aN,aB,cond_false]) (fun n i x k h hx ih Ak=>by simp only [Om,Aao,R9,Ed h,nn,Ky h,Ix,hx,Bb h hl,ih,aN,aB,cond_true,if_true,decide_true,Ab.eta,Ab.cp_eq,Ac.eta,Ac.cp_eq])
def Ml(Hv:Ab→Option Int)(L:Nat)(a0:Ab):List Ab→Nat→Int→Option (Nat×Int×Int)
 | [],i,Ag=>(some (0,(Ag,(i:Int))))
 |x::k,i,Ag=>(Option.bind (Hv x) fun r1=>
 (Ml Hv L a0 k (i+1) (Da (Ag+r1))))
theorem Axe(Hv:Ab→Option Int)(L:Nat)(a0:Ab)(n:Nat)(hl:a0.Kids.length≤maxLen)(hn:a0.Kids.length < n):∀(Ag:Int),L7 Hv L a0 n Ag 0=Ml Hv L a0 a0.Kids 0 Ag:=lQ (fun k i n=>∀(Ag:Int),L7 Hv L a0 n Ag (i:Int)=Ml Hv L a0 k i Ag) hl hn (fun n i h Ag=>by simp only [L7,Zd,Ml,Eo h,aN,aB,cond_false]) (fun n i x k h hx ih Ag=>by simp only [L7,Zd,Ml,Ed h,nn,Ky h,Ix,hx,Bb h hl,ih,aN,aB,cond_true,if_true,decide_true,Ab.eta,Ab.cp_eq,Ac.eta,Ac.cp_eq])
def Mk(Hw:Ab→Option Int)(L:Nat)(a0:Ab):List Ab→Nat→Int→Option (Nat×Int×Int)
 | [],i,Ag=>(some (0,(Ag,(i:Int))))
 |x::k,i,Ag=>(Option.bind (Hw x) fun r1=>
 (Mk Hw L a0 k (i+1) (if r1 > Ag then r1 else Ag)))
theorem Axd(Hw:Ab→Option Int)(L:Nat)(a0:Ab)(n:Nat)(hl:a0.Kids.length≤maxLen)(hn:a0.Kids.length < n):∀(Ag:Int),L6 Hw L a0 n Ag 0=Mk Hw L a0 a0.Kids 0 Ag:=lQ (fun k i n=>∀(Ag:Int),L6 Hw L a0 n Ag (i:Int)=Mk Hw L a0 k i Ag) hl hn (fun n i h Ag=>by simp only [L6,Zc,Mk,Eo h,aN,aB,cond_false]) (fun n i x k h hx ih Ag=>by simp only [L6,Zc,Mk,Ed h,nn,Ky h,Ix,hx,Bb h hl,ih,aN,aB,cond_true,if_true,decide_true,Ab.eta,Ab.cp_eq,Ac.eta,Ac.cp_eq])
def E7(Hx:Bt→Ab→Option Int)(L:Nat)(a1:Ab)(a0:Bt):List Ab→Nat→Int→Option (Nat×Int×Int)
 | [],i,Ak=>(some (1,(Ak,(i:Int))))
 |x::k,i,Ak=>(Option.bind (Hx a0 x) fun r2=>
 (bif (r2 != 0) then (some (0,(r2,(i:Int))))
 else (E7 Hx L a1 a0 k (i+1) Ak)))
theorem Ao1(Hx:Bt→Ab→Option Int)(L:Nat)(a1:Ab)(a0:Bt)(n:Nat)(hl:a1.Kids.length≤maxLen)(hn:a1.Kids.length < n):∀(Ak:Int),Gn Hx L a1 a0 n Ak 0=E7 Hx L a1 a0 a1.Kids 0 Ak:=lQ (fun k i n=>∀(Ak:Int),Gn Hx L a1 a0 n Ak (i:Int)=E7 Hx L a1 a0 k i Ak) hl hn (fun n i h Ak=>by simp only [Gn,Qc,E7,Eo h,aN,aB,cond_false]) (fun n i x k h hx ih Ak=>by simp only [Gn,Qc,E7,Ed h,nn,Ky h,Ix,hx,Bb h hl,ih,aN,aB,cond_true,if_true,decide_true,Ab.eta,Ab.cp_eq,Ac.eta,Ac.cp_eq])
def Jw(L:Nat)(a0:Ac)(a1:Bn):List Ab→Nat→Int→Option (Nat×Int×Int)
 | [],i,Gd=>(some (1,(Gd,(i:Int))))
 |x::k,i,Gd=>(Option.bind (P7 L x) fun r6=>
 (bif (r6 != 0) then (some (0,(r6,(i:Int))))
 else (Jw L a0 a1 k (i+1) Gd)))
theorem Axu(L:Nat)(a0:Ac)(a1:Bn)(n:Nat)(hl:a0.Args.length≤maxLen)(hn:a0.Args.length < n):∀(Gd:Int),Mi L a0 a1 n Gd 0=Jw L a0 a1 a0.Args 0 Gd:=lQ (fun k i n=>∀(Gd:Int),Mi L a0 a1 n Gd (i:Int)=Jw L a0 a1 k i Gd) hl hn (fun n i h Gd=>by simp only [Mi,Zm,Jw,Eo h,aN,aB,cond_false]) (fun n i x k h hx ih Gd=>by simp only [Mi,Zm,Jw,Ed h,nn,Ky h,Ix,hx,Bb h hl,ih,aN,aB,cond_true,if_true,decide_true,Ab.eta,Ab.cp_eq,Ac.eta,Ac.cp_eq])
def Mp(Hd:(List Ac)→Option Int)(L:Nat)(a0:List Ac):List Ac→Nat→Int→Option (Nat×Int×Int)
 | [],i,Ak=>(some (1,(Ak,(i:Int))))
 |x::k,i,Ak=>(Option.bind (Afn L (x.Op)) fun r1=>
 (Option.bind (bif (!r1.2) then (some true)
 else (Option.bind (Afm L x r1.1) fun r3=>
 (some (!r3)))) fun b2=>
 (bif b2 then (some (0,(1,(i:Int))))
 else (Option.bind (s8 L x r1.1) fun r4=>
 (bif (r4 != 0) then (some (0,(r4,(i:Int))))
 else (Option.bind (Hd (x.Body)) fun r5=>
 (bif (r5 != 0) then (some (0,(r5,(i:Int))))
 else (Option.bind (Hd (x.Else)) fun r6=>
 (bif (r6 != 0) then (some (0,(r6,(i:Int))))
 else (Mp Hd L a0 k (i+1) Ak))))))))))
theorem Axt(Hd:(List Ac)→Option Int)(L:Nat)(a0:List Ac)(n:Nat)(hl:a0.length≤maxLen)(hn:a0.length < n):∀(Ak:Int),Mf Hd L a0 n Ak 0=Mp Hd L a0 a0 0 Ak:=lQ (fun k i n=>∀(Ak:Int),Mf Hd L a0 n Ak (i:Int)=Mp Hd L a0 k i Ak) hl hn (fun n i h Ak=>by simp only [Mf,Zl,Mp,Eo h,aN,aB,cond_false]) (fun n i x k h hx ih Ak=>by simp only [Mf,Zl,Mp,Ed h,nn,Ky h,Ix,hx,Bb h hl,ih,aN,aB,cond_true,if_true,decide_true,Ab.eta,Ab.cp_eq,Ac.eta,Ac.cp_eq])
def Eh(L:Nat)(r2:List Ao)(a0:Ai):List Ao→Nat→Int→List ByteArray→List Bool→Option (Nat×Int×Int×List ByteArray×List Bool)
 | [],i,Ak,Dp,Dq=>(some (1,(Ak,(i:Int),Dp,Dq)))
 |x::k,i,Ak,Dp,Dq=>(Option.bind (J5 L (x.Name) a0 x Dp Dq) fun o7=>
 (bif (o7.1 != 0) then (some (0,(o7.1,(i:Int),o7.2.1,o7.2.2)))
 else (Option.bind (Ks L (x.Type_)) fun r8=>
 (bif (!r8) then (some (0,(1,(i:Int),o7.2.1,o7.2.2)))
 else (Eh L r2 a0 k (i+1) Ak o7.2.1 o7.2.2)))))
theorem Ar4(L:Nat)(r2:List Ao)(a0:Ai)(n:Nat)(hl:r2.length≤maxLen)(hn:r2.length < n):∀(Ak:Int) (Dp:List ByteArray) (Dq:List Bool),Gp L r2 a0 n Ak 0 Dp Dq=Eh L r2 a0 r2 0 Ak Dp Dq:=lQ (fun k i n=>∀(Ak:Int) (Dp:List ByteArray) (Dq:List Bool),Gp L r2 a0 n Ak (i:Int) Dp Dq=Eh L r2 a0 k i Ak Dp Dq) hl hn (fun n i h Ak Dp Dq=>by simp only [Gp,f7,Tq,Ow,Eh,Eo h,aN,aB,cond_false]) (fun n i x k h hx ih Ak Dp Dq=>by simp only [Gp,f7,Tq,Ow,Eh,Ed h,nn,Ky h,Ix,hx,Bb h hl,ih,aN,aB,cond_true,if_true,decide_true,Ab.eta,Ab.cp_eq,Ac.eta,Ac.cp_eq])
def Ie(L:Nat)(p1_0:List Ai)(p1_1:Aa)(p1_2:ByteArray):List Ai→Nat→Int→Option (Nat×Int×Int)
 | [],i,Ag=>(some (1,(Ag,(i:Int))))
 |x::k,i,Ag=>(bif ((x.Name).toList == p1_2.toList) then (some (0,((i:Int),(i:Int))))
 else (Ie L p1_0 p1_1 p1_2 k (i+1) Ag))
theorem Ar3(L:Nat)(p1_0:List Ai)(p1_1:Aa)(p1_2:ByteArray)(n:Nat)(hl:p1_0.length≤maxLen)(hn:p1_0.length < n):∀(Ag:Int),Ic L p1_0 p1_1 p1_2 n Ag 0=Ie L p1_0 p1_1 p1_2 p1_0 0 Ag:=lQ (fun k i n=>∀(Ag:Int),Ic L p1_0 p1_1 p1_2 n Ag (i:Int)=Ie L p1_0 p1_1 p1_2 k i Ag) hl hn (fun n i h Ag=>by simp only [Ic,Tf,Ie,Eo h,aN,aB,cond_false]) (fun n i x k h hx ih Ag=>by simp only [Ic,Tf,Ie,Ed h,nn,Ky h,Ix,hx,Bb h hl,ih,aN,aB,cond_true,if_true,decide_true,Ab.eta,Ab.cp_eq,Ac.eta,Ac.cp_eq])
def It(L:Nat)(a0:Aa)(r1:Int)(a1:Bh):List Int→Nat→Int→Option (Nat×Int×Int)
 | [],i,Ak=>(some (1,(Ak,(i:Int))))
 |x::k,i,Ak=>(if ((i:Int) < ((((a0.Routines.getD (Int.toNat r1) default).Params).length:Nat):Int)) then (Option.bind (S8 L ((((a0.Routines.getD (Int.toNat r1) default).Params).getD (Int.toNat (i:Int)) default).Type_) x) fun r2=>
 (bif (!r2) then (some (0,(2,(i:Int))))
 else (It L a0 r1 a1 k (i+1) Ak))) else none)
theorem Avt(L:Nat)(a0:Aa)(r1:Int)(a1:Bh)(n:Nat)(hl:a1.Args.length≤maxLen)(hn:a1.Args.length < n):∀(Ak:Int),Kd L a0 r1 a1 n Ak 0=It L a0 r1 a1 a1.Args 0 Ak:=lQ (fun k i n=>∀(Ak:Int),Kd L a0 r1 a1 n Ak (i:Int)=It L a0 r1 a1 k i Ak) hl hn (fun n i h Ak=>by simp only [Kd,W1,It,Eo h,aN,aB,cond_false]) (fun n i x k h hx ih Ak=>by simp only [Kd,W1,It,Ed h,nn,Ky h,Ix,hx,Bb h hl,ih,aN,aB,cond_true,if_true,decide_true,Ab.eta,Ab.cp_eq,Ac.eta,Ac.cp_eq])
def Mo(L:Nat)(p1_0:List Ap)(p1_1:Aa)(p1_2:Au):List Ap→Nat→Int→Option (Nat×Int×Int)
 | [],i,Ag=>(some (1,(Ag,(i:Int))))
 |x::k,i,Ag=>(bif ((x.Name).toList == p1_2.Name.toList) then (some (0,((i:Int),(i:Int))))
 else (Mo L p1_0 p1_1 p1_2 k (i+1) Ag))
theorem Axq(L:Nat)(p1_0:List Ap)(p1_1:Aa)(p1_2:Au)(n:Nat)(hl:p1_0.length≤maxLen)(hn:p1_0.length < n):∀(Ag:Int),Mc L p1_0 p1_1 p1_2 n Ag 0=Mo L p1_0 p1_1 p1_2 p1_0 0 Ag:=lQ (fun k i n=>∀(Ag:Int),Mc L p1_0 p1_1 p1_2 n Ag (i:Int)=Mo L p1_0 p1_1 p1_2 k i Ag) hl hn (fun n i h Ag=>by simp only [Mc,Zi,Mo,Eo h,aN,aB,cond_false]) (fun n i x k h hx ih Ag=>by simp only [Mc,Zi,Mo,Ed h,nn,Ky h,Ix,hx,Bb h hl,ih,aN,aB,cond_true,if_true,decide_true,Ab.eta,Ab.cp_eq,Ac.eta,Ac.cp_eq])
def Pq(L:Nat)(p11_0:List Au)(p11_1:Aa)(p11_2:List ByteArray)(p11_3:List Bool)(p11_4:Ax)(p11_5:Ax):List Au→Nat→Int→Option (Nat×Int×Int)
 | [],i,B5=>(some (1,(B5,(i:Int))))
 |x::k,i,B5=>(Option.bind (Wo L p11_1 x) fun r6=>
 (bif (r6 != 0) then (some (0,(r6,(i:Int))))
 else (Pq L p11_0 p11_1 p11_2 p11_3 p11_4 p11_5 k (i+1) B5)))
theorem Axi(L:Nat)(p11_0:List Au)(p11_1:Aa)(p11_2:List ByteArray)(p11_3:List Bool)(p11_4:Ax)(p11_5:Ax)(n:Nat)(hl:p11_0.length≤maxLen)(hn:p11_0.length < n):∀(B5:Int),Ma L p11_0 p11_1 p11_2 p11_3 p11_4 p11_5 n B5 0=Pq L p11_0 p11_1 p11_2 p11_3 p11_4 p11_5 p11_0 0 B5:=lQ (fun k i n=>∀(B5:Int),Ma L p11_0 p11_1 p11_2 p11_3 p11_4 p11_5 n B5 (i:Int)=Pq L p11_0 p11_1 p11_2 p11_3 p11_4 p11_5 k i B5) hl hn (fun n i h B5=>by simp only [Ma,Zg,Pq,Eo h,aN,aB,cond_false]) (fun n i x k h hx ih B5=>by simp only [Ma,Zg,Pq,Ed h,nn,Ky h,Ix,hx,Bb h hl,ih,aN,aB,cond_true,if_true,decide_true,Ab.eta,Ab.cp_eq,Ac.eta,Ac.cp_eq])
def Ph(L:Nat)(p1_0:List Ax)(p1_1:Aa):List Ax→Nat→Int→List ByteArray→List Bool→Option (Nat×Int×Int×List ByteArray×List Bool)
 | [],i,Ak,Dm,Dn=>(some (1,(Ak,(i:Int),Dm,Dn)))
 |x::k,i,Ak,Dm,Dn=>(Option.bind (O8 L x p1_1 Dm Dn x) fun o10=>
 (bif (o10.1 != 0) then (some (0,(o10.1,(i:Int),o10.2.1,o10.2.2)))
 else (Ph L p1_0 p1_1 k (i+1) Ak o10.2.1 o10.2.2)))
theorem Axh(L:Nat)(p1_0:List Ax)(p1_1:Aa)(n:Nat)(hl:p1_0.length≤maxLen)(hn:p1_0.length < n):∀(Ak:Int) (Dm:List ByteArray) (Dn:List Bool),Jn L p1_0 p1_1 n Ak 0 Dm Dn=Ph L p1_0 p1_1 p1_0 0 Ak Dm Dn:=lQ (fun k i n=>∀(Ak:Int) (Dm:List ByteArray) (Dn:List Bool),Jn L p1_0 p1_1 n Ak (i:Int) Dm Dn=Ph L p1_0 p1_1 k i Ak Dm Dn) hl hn (fun n i h Ak Dm Dn=>by simp only [Jn,Agc,Xs,Sh,Ph,Eo h,aN,aB,cond_false]) (fun n i x k h hx ih Ak Dm Dn=>by simp only [Jn,Agc,Xs,Sh,Ph,Ed h,nn,Ky h,Ix,hx,Bb h hl,ih,aN,aB,cond_true,if_true,decide_true,Ab.eta,Ab.cp_eq,Ac.eta,Ac.cp_eq])
def Pr(L:Nat)(p41_0:List Al)(p41_1:Aa):List Al→Nat→Int→List ByteArray→List Bool→Option (Nat×Int×Int×List ByteArray×List Bool)
 | [],i,Ak,Dm,Dn=>(some (1,(Ak,(i:Int),Dm,Dn)))
 |x::k,i,Ak,Dm,Dn=>(Option.bind (Nu L x p41_1 Dm Dn x) fun o8=>
 (bif (o8.1 != 0) then (some (0,(o8.1,(i:Int),o8.2.1,o8.2.2)))
 else (Pr L p41_0 p41_1 k (i+1) Ak o8.2.1 o8.2.2)))
theorem Axj(L:Nat)(p41_0:List Al)(p41_1:Aa)(n:Nat)(hl:p41_0.length≤maxLen)(hn:p41_0.length < n):∀(Ak:Int) (Dm:List ByteArray) (Dn:List Bool),Jo L p41_0 p41_1 n Ak 0 Dm Dn=Pr L p41_0 p41_1 p41_0 0 Ak Dm Dn:=lQ (fun k i n=>∀(Ak:Int) (Dm:List ByteArray) (Dn:List Bool),Jo L p41_0 p41_1 n Ak (i:Int) Dm Dn=Pr L p41_0 p41_1 k i Ak Dm Dn) hl hn (fun n i h Ak Dm Dn=>by simp only [Jo,Agd,Xz,Sl,Pr,Eo h,aN,aB,cond_false]) (fun n i x k h hx ih Ak Dm Dn=>by simp only [Jo,Agd,Xz,Sl,Pr,Ed h,nn,Ky h,Ix,hx,Bb h hl,ih,aN,aB,cond_true,if_true,decide_true,Ab.eta,Ab.cp_eq,Ac.eta,Ac.cp_eq])
def Ps(L:Nat)(p48_0:List Af)(p48_1:Aa):List Af→Nat→Int→List ByteArray→List Bool→Option (Nat×Int×Int×List ByteArray×List Bool)
 | [],i,B5,Mx,My=>(some (1,(B5,(i:Int),Mx,My)))
 |x::k,i,B5,Mx,My=>(Option.bind (Nv L x p48_1 Mx My x) fun o19=>
 (bif (o19.1 != 0) then (some (0,(o19.1,(i:Int),o19.2.1,o19.2.2)))
 else (Ps L p48_0 p48_1 k (i+1) B5 o19.2.1 o19.2.2)))
theorem Axk(L:Nat)(p48_0:List Af)(p48_1:Aa)(n:Nat)(hl:p48_0.length≤maxLen)(hn:p48_0.length < n):∀(B5:Int) (Mx:List ByteArray) (My:List Bool),Jp L p48_0 p48_1 n B5 0 Mx My=Ps L p48_0 p48_1 p48_0 0 B5 Mx My:=lQ (fun k i n=>∀(B5:Int) (Mx:List ByteArray) (My:List Bool),Jp L p48_0 p48_1 n B5 (i:Int) Mx My=Ps L p48_0 p48_1 k i B5 Mx My) hl hn (fun n i h B5 Mx My=>by simp only [Jp,Age,X0,Sm,Ps,Eo h,aN,aB,cond_false]) (fun n i x k h hx ih B5 Mx My=>by simp only [Jp,Age,X0,Sm,Ps,Ed h,nn,Ky h,Ix,hx,Bb h hl,ih,aN,aB,cond_true,if_true,decide_true,Ab.eta,Ab.cp_eq,Ac.eta,Ac.cp_eq])
def Pt(L:Nat)(p55_0:List Ap)(p55_1:Aa):List Ap→Nat→Int→List ByteArray→List Bool→Option (Nat×Int×Int×List ByteArray×List Bool)
 | [],i,Gd,Er,Mz=>(some (1,(Gd,(i:Int),Er,Mz)))
 |x::k,i,Gd,Er,Mz=>(Option.bind (Nw L x p55_1 Er Mz x) fun o29=>
 (bif (o29.1 != 0) then (some (0,(o29.1,(i:Int),o29.2.1,o29.2.2)))
 else (Pt L p55_0 p55_1 k (i+1) Gd o29.2.1 o29.2.2)))
theorem Axl(L:Nat)(p55_0:List Ap)(p55_1:Aa)(n:Nat)(hl:p55_0.length≤maxLen)(hn:p55_0.length < n):∀(Gd:Int) (Er:List ByteArray) (Mz:List Bool),Jq L p55_0 p55_1 n Gd 0 Er Mz=Pt L p55_0 p55_1 p55_0 0 Gd Er Mz:=lQ (fun k i n=>∀(Gd:Int) (Er:List ByteArray) (Mz:List Bool),Jq L p55_0 p55_1 n Gd (i:Int) Er Mz=Pt L p55_0 p55_1 k i Gd Er Mz) hl hn (fun n i h Gd Er Mz=>by simp only [Jq,Agf,X1,Sn,Pt,Eo h,aN,aB,cond_false]) (fun n i x k h hx ih Gd Er Mz=>by simp only [Jq,Agf,X1,Sn,Pt,Ed h,nn,Ky h,Ix,hx,Bb h hl,ih,aN,aB,cond_true,if_true,decide_true,Ab.eta,Ab.cp_eq,Ac.eta,Ac.cp_eq])
def Pu(L:Nat)(p62_0:List Ar)(p62_1:Aa):List Ar→Nat→Int→List ByteArray→List Bool→Option (Nat×Int×Int×List ByteArray×List Bool)
 | [],i,K3,M3,Es=>(some (1,(K3,(i:Int),M3,Es)))
 |x::k,i,K3,M3,Es=>(Option.bind (Nx L x p62_1 M3 Es x) fun o40=>
 (bif (o40.1 != 0) then (some (0,(o40.1,(i:Int),o40.2.1,o40.2.2)))
 else (Pu L p62_0 p62_1 k (i+1) K3 o40.2.1 o40.2.2)))
theorem Axm(L:Nat)(p62_0:List Ar)(p62_1:Aa)(n:Nat)(hl:p62_0.length≤maxLen)(hn:p62_0.length < n):∀(K3:Int) (M3:List ByteArray) (Es:List Bool),Jr L p62_0 p62_1 n K3 0 M3 Es=Pu L p62_0 p62_1 p62_0 0 K3 M3 Es:=lQ (fun k i n=>∀(K3:Int) (M3:List ByteArray) (Es:List Bool),Jr L p62_0 p62_1 n K3 (i:Int) M3 Es=Pu L p62_0 p62_1 k i K3 M3 Es) hl hn (fun n i h K3 M3 Es=>by simp only [Jr,Agg,X2,So,Pu,Eo h,aN,aB,cond_false]) (fun n i x k h hx ih K3 M3 Es=>by simp only [Jr,Agg,X2,So,Pu,Ed h,nn,Ky h,Ix,hx,Bb h hl,ih,aN,aB,cond_true,if_true,decide_true,Ab.eta,Ab.cp_eq,Ac.eta,Ac.cp_eq])
def Pv(L:Nat)(p69_0:List ByteArray)(p69_1:Aa):List ByteArray→Nat→Int→List ByteArray→List Bool→Option (Nat×Int×Int×List ByteArray×List Bool)
 | [],i,Wh,M4,M5=>(some (1,(Wh,(i:Int),M4,M5)))
 |x::k,i,Wh,M4,M5=>(Option.bind (Ny L x p69_1 M4 M5) fun o47=>
 (bif (o47.1 != 0) then (some (0,(o47.1,(i:Int),o47.2.1,o47.2.2)))
 else (Pv L p69_0 p69_1 k (i+1) Wh o47.2.1 o47.2.2)))
theorem Axn(L:Nat)(p69_0:List ByteArray)(p69_1:Aa)(n:Nat)(hl:p69_0.length≤maxLen)(hn:p69_0.length < n):∀(Wh:Int) (M4:List ByteArray) (M5:List Bool),Js L p69_0 p69_1 n Wh 0 M4 M5=Pv L p69_0 p69_1 p69_0 0 Wh M4 M5:=lQ (fun k i n=>∀(Wh:Int) (M4:List ByteArray) (M5:List Bool),Js L p69_0 p69_1 n Wh (i:Int) M4 M5=Pv L p69_0 p69_1 k i Wh M4 M5) hl hn (fun n i h Wh M4 M5=>by simp only [Js,Agh,X3,Sp,Pv,Eo h,aN,aB,cond_false]) (fun n i x k h hx ih Wh M4 M5=>by simp only [Js,Agh,X3,Sp,Pv,Ed h,nn,Ky h,Ix,hx,Bb h hl,ih,aN,aB,cond_true,if_true,decide_true,Ab.eta,Ab.cp_eq,Ac.eta,Ac.cp_eq])
def Pw(L:Nat)(p72_0:List Ai)(p72_1:Aa):List Ai→Nat→Int→List ByteArray→List Bool→Option (Nat×Int×Int×List ByteArray×List Bool)
 | [],i,Wj,M6,M7=>(some (1,(Wj,(i:Int),M6,M7)))
 |x::k,i,Wj,M6,M7=>(Option.bind (Nz L x p72_1 M6 M7 x) fun o60=>
 (bif (o60.1 != 0) then (some (0,(o60.1,(i:Int),o60.2.1,o60.2.2)))
 else (Pw L p72_0 p72_1 k (i+1) Wj o60.2.1 o60.2.2)))
theorem Axo(L:Nat)(p72_0:List Ai)(p72_1:Aa)(n:Nat)(hl:p72_0.length≤maxLen)(hn:p72_0.length < n):∀(Wj:Int) (M6:List ByteArray) (M7:List Bool),Jt L p72_0 p72_1 n Wj 0 M6 M7=Pw L p72_0 p72_1 p72_0 0 Wj M6 M7:=lQ (fun k i n=>∀(Wj:Int) (M6:List ByteArray) (M7:List Bool),Jt L p72_0 p72_1 n Wj (i:Int) M6 M7=Pw L p72_0 p72_1 k i Wj M6 M7) hl hn (fun n i h Wj M6 M7=>by simp only [Jt,Agi,U3,Qm,Pw,Eo h,aN,aB,cond_false]) (fun n i x k h hx ih Wj M6 M7=>by simp only [Jt,Agi,U3,Qm,Pw,Ed h,nn,Ky h,Ix,hx,Bb h hl,ih,aN,aB,cond_true,if_true,decide_true,Ab.eta,Ab.cp_eq,Ac.eta,Ac.cp_eq])
def Px(L:Nat)(p79_0:List Bh)(p79_1:Aa)(p79_2:List ByteArray)(p79_3:List Bool):List Bh→Nat→Int→Option (Nat×Int×Int)
 | [],i,Ao5=>(some (1,(Ao5,(i:Int))))
 |x::k,i,Ao5=>(Option.bind (Ud L p79_1 x) fun r63=>
 (bif (r63 != 0) then (some (0,(r63,(i:Int))))
 else (Px L p79_0 p79_1 p79_2 p79_3 k (i+1) Ao5)))
theorem Axp(L:Nat)(p79_0:List Bh)(p79_1:Aa)(p79_2:List ByteArray)(p79_3:List Bool)(n:Nat)(hl:p79_0.length≤maxLen)(hn:p79_0.length < n):∀(Ao5:Int),Mb L p79_0 p79_1 p79_2 p79_3 n Ao5 0=Px L p79_0 p79_1 p79_2 p79_3 p79_0 0 Ao5:=lQ (fun k i n=>∀(Ao5:Int),Mb L p79_0 p79_1 p79_2 p79_3 n Ao5 (i:Int)=Px L p79_0 p79_1 p79_2 p79_3 k i Ao5) hl hn (fun n i h Ao5=>by simp only [Mb,Zh,Px,Eo h,aN,aB,cond_false]) (fun n i x k h hx ih Ao5=>by simp only [Mb,Zh,Px,Ed h,nn,Ky h,Ix,hx,Bb h hl,ih,aN,aB,cond_true,if_true,decide_true,Ab.eta,Ab.cp_eq,Ac.eta,Ac.cp_eq])
def Mn(L:Nat)(p1_0:List Aa)(p1_1:Ad)(p1_2:ByteArray):List Aa→Nat→Int→Option (Nat×Int×Int)
 | [],i,Ag=>(some (1,(Ag,(i:Int))))
 |x::k,i,Ag=>(bif ((x.Name).toList == p1_2.toList) then (some (0,((i:Int),(i:Int))))
 else (Mn L p1_0 p1_1 p1_2 k (i+1) Ag))
theorem Axg(L:Nat)(p1_0:List Aa)(p1_1:Ad)(p1_2:ByteArray)(n:Nat)(hl:p1_0.length≤maxLen)(hn:p1_0.length < n):∀(Ag:Int),L9 L p1_0 p1_1 p1_2 n Ag 0=Mn L p1_0 p1_1 p1_2 p1_0 0 Ag:=lQ (fun k i n=>∀(Ag:Int),L9 L p1_0 p1_1 p1_2 n Ag (i:Int)=Mn L p1_0 p1_1 p1_2 k i Ag) hl hn (fun n i h Ag=>by simp only [L9,Zf,Mn,Eo h,aN,aB,cond_false]) (fun n i x k h hx ih Ag=>by simp only [L9,Zf,Mn,Ed h,nn,Ky h,Ix,hx,Bb h hl,ih,aN,aB,cond_true,if_true,decide_true,Ab.eta,Ab.cp_eq,Ac.eta,Ac.cp_eq])
def Ir(L:Nat)(p1_0:List Bg)(p1_1:Ad):List Bg→Nat→Int→List Bq→List Bool→Option (Nat×Int×Int×List Bq×List Bool)
 | [],i,Ak,Dp,Dq=>(some (1,(Ak,(i:Int),Dp,Dq)))
 |x::k,i,Ak,Dp,Dq=>(Option.bind (R5 L x p1_1 Dp Dq x) fun o8=>
 (bif (o8.1 != 0) then (some (0,(o8.1,(i:Int),o8.2.1,o8.2.2)))
 else (Ir L p1_0 p1_1 k (i+1) Ak o8.2.1 o8.2.2)))
theorem Avo(L:Nat)(p1_0:List Bg)(p1_1:Ad)(n:Nat)(hl:p1_0.length≤maxLen)(hn:p1_0.length < n):∀(Ak:Int) (Dp:List Bq) (Dq:List Bool),Iq L p1_0 p1_1 n Ak 0 Dp Dq=Ir L p1_0 p1_1 p1_0 0 Ak Dp Dq:=lQ (fun k i n=>∀(Ak:Int) (Dp:List Bq) (Dq:List Bool),Iq L p1_0 p1_1 n Ak (i:Int) Dp Dq=Ir L p1_0 p1_1 k i Ak Dp Dq) hl hn (fun n i h Ak Dp Dq=>by simp only [Iq,Adh,Xu,Sj,Ir,Eo h,aN,aB,cond_false]) (fun n i x k h hx ih Ak Dp Dq=>by simp only [Iq,Adh,Xu,Sj,Ir,Ed h,nn,Ky h,Ix,hx,Bb h hl,ih,aN,aB,cond_true,if_true,decide_true,Ab.eta,Ab.cp_eq,Ac.eta,Ac.cp_eq])
def N0(L:Nat)(p1_0:List Al)(p1_1:Ad):List Al→Nat→Int→List ByteArray→List Bool→Option (Nat×Int×Int×List ByteArray×List Bool)
 | [],i,Ak,Dp,Dq=>(some (1,(Ak,(i:Int),Dp,Dq)))
 |x::k,i,Ak,Dp,Dq=>(Option.bind (Nt L x p1_1 Dp Dq x) fun o9=>
 (bif (o9.1 != 0) then (some (0,(o9.1,(i:Int),o9.2.1,o9.2.2)))
 else (N0 L p1_0 p1_1 k (i+1) Ak o9.2.1 o9.2.2)))
theorem Avm(L:Nat)(p1_0:List Al)(p1_1:Ad)(n:Nat)(hl:p1_0.length≤maxLen)(hn:p1_0.length < n):∀(Ak:Int) (Dp:List ByteArray) (Dq:List Bool),Io L p1_0 p1_1 n Ak 0 Dp Dq=N0 L p1_0 p1_1 p1_0 0 Ak Dp Dq:=lQ (fun k i n=>∀(Ak:Int) (Dp:List ByteArray) (Dq:List Bool),Io L p1_0 p1_1 n Ak (i:Int) Dp Dq=N0 L p1_0 p1_1 k i Ak Dp Dq) hl hn (fun n i h Ak Dp Dq=>by simp only [Io,Adf,Xq,Sg,N0,Eo h,aN,aB,cond_false]) (fun n i x k h hx ih Ak Dp Dq=>by simp only [Io,Adf,Xq,Sg,N0,Ed h,nn,Ky h,Ix,hx,Bb h hl,ih,aN,aB,cond_true,if_true,decide_true,Ab.eta,Ab.cp_eq,Ac.eta,Ac.cp_eq])
def N1(L:Nat)(p8_0:List Aa)(p8_1:Ad)(p8_2:List ByteArray)(p8_3:List Bool):List Aa→Nat→Int→List ByteArray→List Bool→Option (Nat×Int×Int×List ByteArray×List Bool)
 | [],i,B5,Mv,Mw=>(some (1,(B5,(i:Int),Mv,Mw)))
 |x::k,i,B5,Mv,Mw=>(Option.bind (Lv L x p8_1 p8_2 p8_3 Mv Mw x) fun o18=>
 (bif (o18.1 != 0) then (some (0,(o18.1,(i:Int),o18.2.1,o18.2.2)))
 else (N1 L p8_0 p8_1 p8_2 p8_3 k (i+1) B5 o18.2.1 o18.2.2)))
theorem Avn(L:Nat)(p8_0:List Aa)(p8_1:Ad)(p8_2:List ByteArray)(p8_3:List Bool)(n:Nat)(hl:p8_0.length≤maxLen)(hn:p8_0.length < n):∀(B5:Int) (Mv:List ByteArray) (Mw:List Bool),Ip L p8_0 p8_1 p8_2 p8_3 n B5 0 Mv Mw=N1 L p8_0 p8_1 p8_2 p8_3 p8_0 0 B5 Mv Mw:=lQ (fun k i n=>∀(B5:Int) (Mv:List ByteArray) (Mw:List Bool),Ip L p8_0 p8_1 p8_2 p8_3 n B5 (i:Int) Mv Mw=N1 L p8_0 p8_1 p8_2 p8_3 k i B5 Mv Mw) hl hn (fun n i h B5 Mv Mw=>by simp only [Ip,Adg,U0,Qj,N1,Eo h,aN,aB,cond_false]) (fun n i x k h hx ih B5 Mv Mw=>by simp only [Ip,Adg,U0,Qj,N1,Ed h,nn,Ky h,Ix,hx,Bb h hl,ih,aN,aB,cond_true,if_true,decide_true,Ab.eta,Ab.cp_eq,Ac.eta,Ac.cp_eq])
def Ko(L:Nat)(a1:ByteArray)(a0:Aq):List Al→Nat→Int→Bool→Option (Nat×Int×Bool×Int)
 | [],i,Ag,Am=>(some (1,(Ag,Am,(i:Int))))
 |x::k,i,Ag,Am=>(bif ((x.Name).toList == a1.toList) then (some (0,((x.Type_),true,(i:Int))))
 else (Ko L a1 a0 k (i+1) Ag Am))
theorem Avu(L:Nat)(a1:ByteArray)(a0:Aq)(n:Nat)(hl:a0.Site.Vars.length≤maxLen)(hn:a0.Site.Vars.length < n):∀(Ag:Int) (Am:Bool),Kf L a1 a0 n Ag Am 0=Ko L a1 a0 a0.Site.Vars 0 Ag Am:=lQ (fun k i n=>∀(Ag:Int) (Am:Bool),Kf L a1 a0 n Ag Am (i:Int)=Ko L a1 a0 k i Ag Am) hl hn (fun n i h Ag Am=>by simp only [Kf,W2,Ko,Eo h,aN,aB,cond_false]) (fun n i x k h hx ih Ag Am=>by simp only [Kf,W2,Ko,Ed h,nn,Ky h,Ix,hx,Bb h hl,ih,aN,aB,cond_true,if_true,decide_true,Ab.eta,Ab.cp_eq,Ac.eta,Ac.cp_eq])
def Kp(L:Nat)(a1:ByteArray)(a0:Aq):List Al→Nat→Int→Bool→Option (Nat×Int×Bool×Int)
 | [],i,C1,Iz=>(some (1,(C1,Iz,(i:Int))))
 |x::k,i,C1,Iz=>(bif ((x.Name).toList == a1.toList) then (some (0,((x.Type_),true,(i:Int))))
 else (Kp L a1 a0 k (i+1) C1 Iz))
theorem Avv(L:Nat)(a1:ByteArray)(a0:Aq)(n:Nat)(hl:a0.Params.length≤maxLen)(hn:a0.Params.length < n):∀(C1:Int) (Iz:Bool),Kg L a1 a0 n C1 Iz 0=Kp L a1 a0 a0.Params 0 C1 Iz:=lQ (fun k i n=>∀(C1:Int) (Iz:Bool),Kg L a1 a0 n C1 Iz (i:Int)=Kp L a1 a0 k i C1 Iz) hl hn (fun n i h C1 Iz=>by simp only [Kg,W3,Kp,Eo h,aN,aB,cond_false]) (fun n i x k h hx ih C1 Iz=>by simp only [Kg,W3,Kp,Ed h,nn,Ky h,Ix,hx,Bb h hl,ih,aN,aB,cond_true,if_true,decide_true,Ab.eta,Ab.cp_eq,Ac.eta,Ac.cp_eq])
def Kk(L:Nat)(p1_0:List Al)(p1_1:Aa)(p1_2:ByteArray):List Al→Nat→Int→Option (Nat×Int×Int)
 | [],i,Ag=>(some (1,(Ag,(i:Int))))
 |x::k,i,Ag=>(bif ((x.Name).toList == p1_2.toList) then (some (0,((i:Int),(i:Int))))
 else (Kk L p1_0 p1_1 p1_2 k (i+1) Ag))
theorem Avp(L:Nat)(p1_0:List Al)(p1_1:Aa)(p1_2:ByteArray)(n:Nat)(hl:p1_0.length≤maxLen)(hn:p1_0.length < n):∀(Ag:Int),J9 L p1_0 p1_1 p1_2 n Ag 0=Kk L p1_0 p1_1 p1_2 p1_0 0 Ag:=lQ (fun k i n=>∀(Ag:Int),J9 L p1_0 p1_1 p1_2 n Ag (i:Int)=Kk L p1_0 p1_1 p1_2 k i Ag) hl hn (fun n i h Ag=>by simp only [J9,Wx,Kk,Eo h,aN,aB,cond_false]) (fun n i x k h hx ih Ag=>by simp only [J9,Wx,Kk,Ed h,nn,Ky h,Ix,hx,Bb h hl,ih,aN,aB,cond_true,if_true,decide_true,Ab.eta,Ab.cp_eq,Ac.eta,Ac.cp_eq])
def Kl(L:Nat)(p2_0:List Af)(p2_1:Aa)(p2_2:ByteArray):List Af→Nat→Int→Option (Nat×Int×Int)
 | [],i,C1=>(some (1,(C1,(i:Int))))
 |x::k,i,C1=>(bif ((x.Name).toList == p2_2.toList) then (some (0,((i:Int),(i:Int))))
 else (Kl L p2_0 p2_1 p2_2 k (i+1) C1))
theorem Avq(L:Nat)(p2_0:List Af)(p2_1:Aa)(p2_2:ByteArray)(n:Nat)(hl:p2_0.length≤maxLen)(hn:p2_0.length < n):∀(C1:Int),Ka L p2_0 p2_1 p2_2 n C1 0=Kl L p2_0 p2_1 p2_2 p2_0 0 C1:=lQ (fun k i n=>∀(C1:Int),Ka L p2_0 p2_1 p2_2 n C1 (i:Int)=Kl L p2_0 p2_1 p2_2 k i C1) hl hn (fun n i h C1=>by simp only [Ka,Wy,Kl,Eo h,aN,aB,cond_false]) (fun n i x k h hx ih C1=>by simp only [Ka,Wy,Kl,Ed h,nn,Ky h,Ix,hx,Bb h hl,ih,aN,aB,cond_true,if_true,decide_true,Ab.eta,Ab.cp_eq,Ac.eta,Ac.cp_eq])
def Km(L:Nat)(p3_0:List Ap)(p3_1:Aa)(p3_2:ByteArray):List Ap→Nat→Int→Option (Nat×Int×Int)
 | [],i,Rn=>(some (1,(Rn,(i:Int))))
 |x::k,i,Rn=>(bif ((x.Name).toList == p3_2.toList) then (some (0,((i:Int),(i:Int))))
 else (Km L p3_0 p3_1 p3_2 k (i+1) Rn))
theorem Avr(L:Nat)(p3_0:List Ap)(p3_1:Aa)(p3_2:ByteArray)(n:Nat)(hl:p3_0.length≤maxLen)(hn:p3_0.length < n):∀(Rn:Int),Kb L p3_0 p3_1 p3_2 n Rn 0=Km L p3_0 p3_1 p3_2 p3_0 0 Rn:=lQ (fun k i n=>∀(Rn:Int),Kb L p3_0 p3_1 p3_2 n Rn (i:Int)=Km L p3_0 p3_1 p3_2 k i Rn) hl hn (fun n i h Rn=>by simp only [Kb,Wz,Km,Eo h,aN,aB,cond_false]) (fun n i x k h hx ih Rn=>by simp only [Kb,Wz,Km,Ed h,nn,Ky h,Ix,hx,Bb h hl,ih,aN,aB,cond_true,if_true,decide_true,Ab.eta,Ab.cp_eq,Ac.eta,Ac.cp_eq])
def Kn(L:Nat)(p4_0:List Ar)(p4_1:Aa)(p4_2:ByteArray):List Ar→Nat→Int→Option (Nat×Int×Int)
 | [],i,Jj=>(some (1,(Jj,(i:Int))))
 |x::k,i,Jj=>(bif ((x.Name).toList == p4_2.toList) then (some (0,((i:Int),(i:Int))))
 else (Kn L p4_0 p4_1 p4_2 k (i+1) Jj))
theorem Avs(L:Nat)(p4_0:List Ar)(p4_1:Aa)(p4_2:ByteArray)(n:Nat)(hl:p4_0.length≤maxLen)(hn:p4_0.length < n):∀(Jj:Int),Kc L p4_0 p4_1 p4_2 n Jj 0=Kn L p4_0 p4_1 p4_2 p4_0 0 Jj:=lQ (fun k i n=>∀(Jj:Int),Kc L p4_0 p4_1 p4_2 n Jj (i:Int)=Kn L p4_0 p4_1 p4_2 k i Jj) hl hn (fun n i h Jj=>by simp only [Kc,W0,Kn,Eo h,aN,aB,cond_false]) (fun n i x k h hx ih Jj=>by simp only [Kc,W0,Kn,Ed h,nn,Ky h,Ix,hx,Bb h hl,ih,aN,aB,cond_true,if_true,decide_true,Ab.eta,Ab.cp_eq,Ac.eta,Ac.cp_eq])
def Iu(Ht:Aq→Ab→Option (Int×Int))(L:Nat)(a1:Ab)(a0:Aq):List Ab→Nat→Int→Int→List Int→Option (Nat×Int×Int×List Int×Int)
 | [],i,Ak,Ag,Am=>(some (1,(Ak,Ag,Am,(i:Int))))
 |x::k,i,Ak,Ag,Am=>(Option.bind (Ht a0 x) fun r1=>
 (bif (r1.2 != 0) then (some (0,(0,r1.2,Am,(i:Int))))
 else (if ((Am.length+ [r1.1].length)*8≤140737488355328) then (if (Am.length+ [r1.1].length≤maxLen) then (Iu Ht L a1 a0 k (i+1) Ak Ag (Am++ [r1.1])) else none) else none)))
theorem Avw(Ht:Aq→Ab→Option (Int×Int))(L:Nat)(a1:Ab)(a0:Aq)(n:Nat)(hl:a1.Kids.length≤maxLen)(hn:a1.Kids.length < n):∀(Ak:Int) (Ag:Int) (Am:List Int),Kh Ht L a1 a0 n Ak Ag Am 0=Iu Ht L a1 a0 a1.Kids 0 Ak Ag Am:=lQ (fun k i n=>∀(Ak:Int) (Ag:Int) (Am:List Int),Kh Ht L a1 a0 n Ak Ag Am (i:Int)=Iu Ht L a1 a0 k i Ak Ag Am) hl hn (fun n i h Ak Ag Am=>by simp only [Kh,W4,Iu,Eo h,aN,aB,cond_false]) (fun n i x k h hx ih Ak Ag Am=>by simp only [Kh,W4,Iu,Ed h,nn,Ky h,Ix,hx,Bb h hl,ih,aN,aB,cond_true,if_true,decide_true,Ab.eta,Ab.cp_eq,Ac.eta,Ac.cp_eq])
def D7(L:Nat)(r1:Int×Int)(a2:List Int)(a1:Ab):List Int→Nat→Int→Option (Nat×Int×Int)
 | [],i,Ak=>(some (1,(Ak,(i:Int))))
 |x::k,i,Ak=>(bif (r1.1 == x) then (some (0,(0,(i:Int))))
 else (D7 L r1 a2 a1 k (i+1) Ak))
theorem Ait(L:Nat)(r1:Int×Int)(a2:List Int)(a1:Ab)(n:Nat)(hl:a2.length≤maxLen)(hn:a2.length < n):∀(Ak:Int),D5 L r1 a2 a1 n Ak 0=D7 L r1 a2 a1 a2 0 Ak:=lQ (fun k i n=>∀(Ak:Int),D5 L r1 a2 a1 n Ak (i:Int)=D7 L r1 a2 a1 k i Ak) hl hn (fun n i h Ak=>by simp only [D5,J0,D7,Eo h,aN,aB,cond_false]) (fun n i x k h hx ih Ak=>by simp only [D5,J0,D7,Ed h,nn,Ky h,Ix,hx,Bb h hl,ih,aN,aB,cond_true,if_true,decide_true,Ab.eta,Ab.cp_eq,Ac.eta,Ac.cp_eq])
def Ez(L:Nat)(a0:Aj)(r1:Int×Bool)(a1:Ac):List Al→Nat→Int→Option (Nat×Int×Int)
 | [],i,C2=>(some (1,(C2,(i:Int))))
 |x::k,i,C2=>(bif ((x.Name).toList == a1.Name.toList) then (Option.bind (Bw L a0 a1.E [x.Type_]) fun r2=>
 (some (0,(r2,(i:Int)))))
 else (Ez L a0 r1 a1 k (i+1) C2))
theorem Akr(L:Nat)(a0:Aj)(r1:Int×Bool)(a1:Ac)(n:Nat)(hl:a0.u_env.Site.Vars.length≤maxLen)(hn:a0.u_env.Site.Vars.length < n):∀(C2:Int),Ey L a0 r1 a1 n C2 0=Ez L a0 r1 a1 a0.u_env.Site.Vars 0 C2:=lQ (fun k i n=>∀(C2:Int),Ey L a0 r1 a1 n C2 (i:Int)=Ez L a0 r1 a1 k i C2) hl hn (fun n i h C2=>by simp only [Ey,Lw,Ez,Eo h,aN,aB,cond_false]) (fun n i x k h hx ih C2=>by simp only [Ey,Lw,Ez,Ed h,nn,Ky h,Ix,hx,Bb h hl,ih,aN,aB,cond_true,if_true,decide_true,Ab.eta,Ab.cp_eq,Ac.eta,Ac.cp_eq])
def Dx(L:Nat)(r1:Int×Bool)(a2:List Int):List Int→Nat→Int→Option (Nat×Int×Int)
 | [],i,Ak=>(some (1,(Ak,(i:Int))))
 |x::k,i,Ak=>(bif (r1.1 == x) then (some (0,(0,(i:Int))))
 else (Dx L r1 a2 k (i+1) Ak))
theorem Ahk(L:Nat)(r1:Int×Bool)(a2:List Int)(n:Nat)(hl:a2.length≤maxLen)(hn:a2.length < n):∀(Ak:Int),Dw L r1 a2 n Ak 0=Dx L r1 a2 a2 0 Ak:=lQ (fun k i n=>∀(Ak:Int),Dw L r1 a2 n Ak (i:Int)=Dx L r1 a2 k i Ak) hl hn (fun n i h Ak=>by simp only [Dw,I8,Dx,Eo h,aN,aB,cond_false]) (fun n i x k h hx ih Ak=>by simp only [Dw,I8,Dx,Ed h,nn,Ky h,Ix,hx,Bb h hl,ih,aN,aB,cond_true,if_true,decide_true,Ab.eta,Ab.cp_eq,Ac.eta,Ac.cp_eq])
def D6(L:Nat)(a0:Aj)(a3:List Ab)(a1:Ac):List Ab→Nat→Int→Option (Nat×Int×Int)
 | [],i,C2=>(some (1,(C2,(i:Int))))
 |x::k,i,C2=>(Option.bind (Bw L a0 x [1]) fun r2=>
 (bif (r2 != 0) then (some (0,(r2,(i:Int))))
 else (D6 L a0 a3 a1 k (i+1) C2)))
theorem Ais(L:Nat)(a0:Aj)(a3:List Ab)(a1:Ac)(n:Nat)(hl:a3.length≤maxLen)(hn:a3.length < n):∀(C2:Int),D4 L a0 a3 a1 n C2 0=D6 L a0 a3 a1 a3 0 C2:=lQ (fun k i n=>∀(C2:Int),D4 L a0 a3 a1 n C2 (i:Int)=D6 L a0 a3 a1 k i C2) hl hn (fun n i h C2=>by simp only [D4,Jz,D6,Eo h,aN,aB,cond_false]) (fun n i x k h hx ih C2=>by simp only [D4,Jz,D6,Ed h,nn,Ky h,Ix,hx,Bb h hl,ih,aN,aB,cond_true,if_true,decide_true,Ab.eta,Ab.cp_eq,Ac.eta,Ac.cp_eq])
def Mm(L:Nat)(p1_0:List Bg)(p1_1:Ad)(p1_2:ByteArray)(p1_3:ByteArray):List Bg→Nat→Int→Option (Nat×Int×Int)
 | [],i,Ag=>(some (1,(Ag,(i:Int))))
 |x::k,i,Ag=>((fun b1=>
 (bif b1 then (some (0,((i:Int),(i:Int))))
 else (Mm L p1_0 p1_1 p1_2 p1_3 k (i+1) Ag))) (bif ((x.From).toList == p1_2.toList) then ((x.To).toList == p1_3.toList)
 else false))
theorem Axf(L:Nat)(p1_0:List Bg)(p1_1:Ad)(p1_2:ByteArray)(p1_3:ByteArray)(n:Nat)(hl:p1_0.length≤maxLen)(hn:p1_0.length < n):∀(Ag:Int),L8 L p1_0 p1_1 p1_2 p1_3 n Ag 0=Mm L p1_0 p1_1 p1_2 p1_3 p1_0 0 Ag:=lQ (fun k i n=>∀(Ag:Int),L8 L p1_0 p1_1 p1_2 p1_3 n Ag (i:Int)=Mm L p1_0 p1_1 p1_2 p1_3 k i Ag) hl hn (fun n i h Ag=>by simp only [L8,Ze,Mm,Eo h,aN,aB,cond_false]) (fun n i x k h hx ih Ag=>by simp only [L8,Ze,Mm,Ed h,nn,Ky h,Ix,hx,Bb h hl,ih,aN,aB,cond_true,if_true,decide_true,Ab.eta,Ab.cp_eq,Ac.eta,Ac.cp_eq])
def Ej(L:Nat)(a0:Aj)(a2:Ac)(a1:Ai):List Ab→Nat→Int→Option (Nat×Int×Int)
 | [],i,C2=>(some (1,(C2,(i:Int))))
 |x::k,i,C2=>(if ((i:Int) < (a1.Params.length:Int)) then (Option.bind (Bw L a0 x [(a1.Params.getD (Int.toNat (i:Int)) default).Type_]) fun r1=>
 (bif (r1 != 0) then (some (0,(r1,(i:Int))))
 else (Ej L a0 a2 a1 k (i+1) C2))) else none)
theorem Aja(L:Nat)(a0:Aj)(a2:Ac)(a1:Ai)(n:Nat)(hl:a2.Args.length≤maxLen)(hn:a2.Args.length < n):∀(C2:Int),Ef L a0 a2 a1 n C2 0=Ej L a0 a2 a1 a2.Args 0 C2:=lQ (fun k i n=>∀(C2:Int),Ef L a0 a2 a1 n C2 (i:Int)=Ej L a0 a2 a1 k i C2) hl hn (fun n i h C2=>by simp only [Ef,Kw,Ej,Eo h,aN,aB,cond_false]) (fun n i x k h hx ih C2=>by simp only [Ef,Kw,Ej,Ed h,nn,Ky h,Ix,hx,Bb h hl,ih,aN,aB,cond_true,if_true,decide_true,Ab.eta,Ab.cp_eq,Ac.eta,Ac.cp_eq])
def Ek(Ha:Aj→(List Ac)→Option Int)(L:Nat)(a0:Aj)(a1:List Ac):List Ac→Nat→Int→Option (Nat×Int×Int)
 | [],i,C2=>(some (1,(C2,(i:Int))))
 |x::k,i,C2=>(Option.bind (K7 L a0 x) fun r1=>
 (bif (r1 != 0) then (some (0,(r1,(i:Int))))
 else (Option.bind (Ha a0 (x.Body)) fun r2=>
 (bif (r2 != 0) then (some (0,(r2,(i:Int))))
 else (Option.bind (Ha a0 (x.Else)) fun r3=>
 (bif (r3 != 0) then (some (0,(r3,(i:Int))))
 else (Ek Ha L a0 a1 k (i+1) C2)))))))
theorem Ajb(Ha:Aj→(List Ac)→Option Int)(L:Nat)(a0:Aj)(a1:List Ac)(n:Nat)(hl:a1.length≤maxLen)(hn:a1.length < n):∀(C2:Int),Eg Ha L a0 a1 n C2 0=Ek Ha L a0 a1 a1 0 C2:=lQ (fun k i n=>∀(C2:Int),Eg Ha L a0 a1 n C2 (i:Int)=Ek Ha L a0 a1 k i C2) hl hn (fun n i h C2=>by simp only [Eg,Kx,Ek,Eo h,aN,aB,cond_false]) (fun n i x k h hx ih C2=>by simp only [Eg,Kx,Ek,Ed h,nn,Ky h,Ix,hx,Bb h hl,ih,aN,aB,cond_true,if_true,decide_true,Ab.eta,Ab.cp_eq,Ac.eta,Ac.cp_eq])
def Jf(L:Nat)(Ah:Int)(a0:Ad):List Ai→Nat→Int→Option (Nat×Int×Int)
 | [],i,B5=>(some (1,(B5,(i:Int))))
 |x::k,i,B5=>(if ((0+(x.Params).length)*24≤140737488355328) then (if (0+(x.Params).length≤maxLen) then (if (((x.Params).length+(x.Locals).length)*24≤140737488355328) then (if ((x.Params).length+(x.Locals).length≤maxLen) then (Option.bind (Rv L a0 Ah (x.Params++x.Locals) (x.Body)) fun r2=>
 (bif (r2 != 0) then (some (0,(r2,(i:Int))))
 else (Jf L Ah a0 k (i+1) B5))) else none) else none) else none) else none)
theorem Atz(L:Nat)(Ah:Int)(a0:Ad)(n:Nat)(hl:((a0.Sites.getD (Int.toNat Ah) default).Routines).length≤maxLen)(hn:((a0.Sites.getD (Int.toNat Ah) default).Routines).length < n):∀(B5:Int),Hn L Ah a0 n B5 0=Jf L Ah a0 ((a0.Sites.getD (Int.toNat Ah) default).Routines) 0 B5:=lQ (fun k i n=>∀(B5:Int),Hn L Ah a0 n B5 (i:Int)=Jf L Ah a0 k i B5) hl hn (fun n i h B5=>by simp only [Hn,Ut,Jf,Eo h,aN,aB,cond_false]) (fun n i x k h hx ih B5=>by simp only [Hn,Ut,Jf,Ed h,nn,Ky h,Ix,hx,Bb h hl,ih,aN,aB,cond_true,if_true,decide_true,Ab.eta,Ab.cp_eq,Ac.eta,Ac.cp_eq])
def Je(L:Nat)(a0:Ad):List Aa→Nat→Int→Option (Nat×Int×Int)
 | [],i,Ak=>(some (1,(Ak,(i:Int))))
 |x::k,i,Ak=>(Option.bind (Hn L (i:Int) a0 L Ak 0) fun o3=>
 (Arf o3.1 [(some (0,(o3.2.1,(i:Int)))),(Je L a0 k (i+1) o3.2.1)]))
theorem Aty(L:Nat)(a0:Ad)(n:Nat)(hl:a0.Sites.length≤maxLen)(hn:a0.Sites.length < n):∀(Ak:Int),Hm L a0 n Ak 0=Je L a0 a0.Sites 0 Ak:=lQ (fun k i n=>∀(Ak:Int),Hm L a0 n Ak (i:Int)=Je L a0 k i Ak) hl hn (fun n i h Ak=>by simp only [Hm,Aap,U5,Qo,Je,Eo h,aN,aB,cond_false]) (fun n i x k h hx ih Ak=>by simp only [Hm,Aap,U5,Qo,Je,Ed h,nn,Ky h,Ix,hx,Bb h hl,ih,aN,aB,cond_true,if_true,decide_true,Ab.eta,Ab.cp_eq,Ac.eta,Ac.cp_eq])
def Rf(L:Nat)(a0:List ByteArray)(a1:ByteArray):List ByteArray→Nat→Int→Option (Nat×Int×Int)
 | [],i,Am=>(some (1,(Am,(i:Int))))
 |x::k,i,Am=>(bif (x.toList == a1.toList) then (some (0,((i:Int),(i:Int))))
 else (Rf L a0 a1 k (i+1) Am))
theorem A3p(L:Nat)(a0:List ByteArray)(a1:ByteArray)(n:Nat)(hl:a0.length≤maxLen)(hn:a0.length < n):∀(Am:Int),Qx L a0 a1 n Am 0=Rf L a0 a1 a0 0 Am:=lQ (fun k i n=>∀(Am:Int),Qx L a0 a1 n Am (i:Int)=Rf L a0 a1 k i Am) hl hn (fun n i h Am=>by simp only [Qx,Aet,Rf,Eo h,aN,aB,cond_false]) (fun n i x k h hx ih Am=>by simp only [Qx,Aet,Rf,Ed h,nn,Ky h,Ix,hx,Bb h hl,ih,aN,aB,cond_true,if_true,decide_true,Ab.eta,Ab.cp_eq,Ac.eta,Ac.cp_eq])
def Li(L:Nat)(a0:Aa):List Al→Nat→List ByteArray→Option (Nat×Int×List ByteArray)
 | [],i,Yh=>(some (0,((i:Int),Yh)))
 |x::k,i,Yh=>(if (0≤0) then (if (0 < ((10:Nat):Int)) then (if ((Yh.length+ [x.Name].length)*16≤140737488355328) then (if (Yh.length+ [x.Name].length≤maxLen) then (if (0≤0) then (if (0 < ((10:Nat):Int)) then (Li L a0 k (i+1) (Yh++ [x.Name])) else none) else none) else none) else none) else none) else none)
theorem A0l(L:Nat)(a0:Aa)(n:Nat)(hl:a0.Vars.length≤maxLen)(hn:a0.Vars.length < n):∀(Yh:List ByteArray),Oc L a0 n 0 Yh=Li L a0 a0.Vars 0 Yh:=lQ (fun k i n=>∀(Yh:List ByteArray),Oc L a0 n (i:Int) Yh=Li L a0 k i Yh) hl hn (fun n i h Yh=>by simp only [Oc,Aae,Li,Eo h,aN,aB,cond_false]) (fun n i x k h hx ih Yh=>by simp only [Oc,Aae,Li,Ed h,nn,Ky h,Ix,hx,Bb h hl,ih,aN,aB,cond_true,if_true,decide_true,Ab.eta,Ab.cp_eq,Ac.eta,Ac.cp_eq])
def Lj(L:Nat)(a0:Aa)(o1:Nat×Int×List ByteArray):List Af→Nat→List ByteArray→Option (Nat×Int×List ByteArray)
 | [],i,Yi=>(some (0,((i:Int),Yi)))
 |x::k,i,Yi=>(if (0≤1) then (if (1 < ((10:Nat):Int)) then (if ((Yi.length+ [x.Name].length)*16≤140737488355328) then (if (Yi.length+ [x.Name].length≤maxLen) then (if (0≤1) then (if (1 < ((10:Nat):Int)) then (Lj L a0 o1 k (i+1) (Yi++ [x.Name])) else none) else none) else none) else none) else none) else none)
theorem A0m(L:Nat)(a0:Aa)(o1:Nat×Int×List ByteArray)(n:Nat)(hl:a0.Resources.length≤maxLen)(hn:a0.Resources.length < n):∀(Yi:List ByteArray),Od L a0 o1 n 0 Yi=Lj L a0 o1 a0.Resources 0 Yi:=lQ (fun k i n=>∀(Yi:List ByteArray),Od L a0 o1 n (i:Int) Yi=Lj L a0 o1 k i Yi) hl hn (fun n i h Yi=>by simp only [Od,Aaf,Lj,Eo h,aN,aB,cond_false]) (fun n i x k h hx ih Yi=>by simp only [Od,Aaf,Lj,Ed h,nn,Ky h,Ix,hx,Bb h hl,ih,aN,aB,cond_true,if_true,decide_true,Ab.eta,Ab.cp_eq,Ac.eta,Ac.cp_eq])
def Lk(L:Nat)(a0:Aa)(o1:Nat×Int×List ByteArray)(o2:Nat×Int×List ByteArray):List Ap→Nat→List ByteArray→Option (Nat×Int×List ByteArray)
 | [],i,Er=>(some (0,((i:Int),Er)))
 |x::k,i,Er=>(if (0≤2) then (if (2 < ((10:Nat):Int)) then (if ((Er.length+ [x.Name].length)*16≤140737488355328) then (if (Er.length+ [x.Name].length≤maxLen) then (if (0≤2) then (if (2 < ((10:Nat):Int)) then (Lk L a0 o1 o2 k (i+1) (Er++ [x.Name])) else none) else none) else none) else none) else none) else none)
theorem A0n(L:Nat)(a0:Aa)(o1:Nat×Int×List ByteArray)(o2:Nat×Int×List ByteArray)(n:Nat)(hl:a0.Stores.length≤maxLen)(hn:a0.Stores.length < n):∀(Er:List ByteArray),Oe L a0 o1 o2 n 0 Er=Lk L a0 o1 o2 a0.Stores 0 Er:=lQ (fun k i n=>∀(Er:List ByteArray),Oe L a0 o1 o2 n (i:Int) Er=Lk L a0 o1 o2 k i Er) hl hn (fun n i h Er=>by simp only [Oe,Aag,Lk,Eo h,aN,aB,cond_false]) (fun n i x k h hx ih Er=>by simp only [Oe,Aag,Lk,Ed h,nn,Ky h,Ix,hx,Bb h hl,ih,aN,aB,cond_true,if_true,decide_true,Ab.eta,Ab.cp_eq,Ac.eta,Ac.cp_eq])
def Ll(L:Nat)(a0:Aa)(o1:Nat×Int×List ByteArray)(o2:Nat×Int×List ByteArray)(o3:Nat×Int×List ByteArray):List Ar→Nat→List ByteArray→Option (Nat×Int×List ByteArray)
 | [],i,Es=>(some (0,((i:Int),Es)))
 |x::k,i,Es=>(if (0≤3) then (if (3 < ((10:Nat):Int)) then (if ((Es.length+ [x.Name].length)*16≤140737488355328) then (if (Es.length+ [x.Name].length≤maxLen) then (if (0≤3) then (if (3 < ((10:Nat):Int)) then (Ll L a0 o1 o2 o3 k (i+1) (Es++ [x.Name])) else none) else none) else none) else none) else none) else none)
theorem A0o(L:Nat)(a0:Aa)(o1:Nat×Int×List ByteArray)(o2:Nat×Int×List ByteArray)(o3:Nat×Int×List ByteArray)(n:Nat)(hl:a0.Belts.length≤maxLen)(hn:a0.Belts.length < n):∀(Es:List ByteArray),Og L a0 o1 o2 o3 n 0 Es=Ll L a0 o1 o2 o3 a0.Belts 0 Es:=lQ (fun k i n=>∀(Es:List ByteArray),Og L a0 o1 o2 o3 n (i:Int) Es=Ll L a0 o1 o2 o3 k i Es) hl hn (fun n i h Es=>by simp only [Og,Aah,Ll,Eo h,aN,aB,cond_false]) (fun n i x k h hx ih Es=>by simp only [Og,Aah,Ll,Ed h,nn,Ky h,Ix,hx,Bb h hl,ih,aN,aB,cond_true,if_true,decide_true,Ab.eta,Ab.cp_eq,Ac.eta,Ac.cp_eq])
def Lm(L:Nat)(a0:Aa)(o1:Nat×Int×List ByteArray)(o2:Nat×Int×List ByteArray)(o3:Nat×Int×List ByteArray)(o4:Nat×Int×List ByteArray):List Ai→Nat→List ByteArray→Option (Nat×Int×List ByteArray)
 | [],i,Yj=>(some (0,((i:Int),Yj)))
 |x::k,i,Yj=>(if (0≤9) then (if (9 < ((10:Nat):Int)) then (if ((Yj.length+ [x.Name].length)*16≤140737488355328) then (if (Yj.length+ [x.Name].length≤maxLen) then (if (0≤9) then (if (9 < ((10:Nat):Int)) then (Lm L a0 o1 o2 o3 o4 k (i+1) (Yj++ [x.Name])) else none) else none) else none) else none) else none) else none)
theorem A0p(L:Nat)(a0:Aa)(o1:Nat×Int×List ByteArray)(o2:Nat×Int×List ByteArray)(o3:Nat×Int×List ByteArray)(o4:Nat×Int×List ByteArray)(n:Nat)(hl:a0.Routines.length≤maxLen)(hn:a0.Routines.length < n):∀(Yj:List ByteArray),Oh L a0 o1 o2 o3 o4 n 0 Yj=Lm L a0 o1 o2 o3 o4 a0.Routines 0 Yj:=lQ (fun k i n=>∀(Yj:List ByteArray),Oh L a0 o1 o2 o3 o4 n (i:Int) Yj=Lm L a0 o1 o2 o3 o4 k i Yj) hl hn (fun n i h Yj=>by simp only [Oh,Aai,Lm,Eo h,aN,aB,cond_false]) (fun n i x k h hx ih Yj=>by simp only [Oh,Aai,Lm,Ed h,nn,Ky h,Ix,hx,Bb h hl,ih,aN,aB,cond_true,if_true,decide_true,Ab.eta,Ab.cp_eq,Ac.eta,Ac.cp_eq])
def Hp(L:Nat)(a0:Af):List Cu→Nat→Int→Option (Nat×Int×Int)
 | [],i,Ak=>(some (1,(Ak,(i:Int))))
 |x::k,i,Ak=>(Option.bind (Dr L (x.At) 0 (Da (a0.Cycle - 1))) fun r3=>
 (Option.bind (bif (!r3) then (some true)
 else (Option.bind (Dr L (x.Units) 0 1000) fun r5=>
 (some (!r5)))) fun b4=>
 (bif b4 then (some (0,(2,(i:Int))))
 else (bif (decide ((i:Int) > 0)) then (if (0≤(Da ((i:Int) - 1))) then (if ((Da ((i:Int) - 1)) < (a0.Shift.length:Int)) then (bif (decide (x.At≤(a0.Shift.getD (Int.toNat (Da ((i:Int) - 1))) default).At)) then (some (0,(12,(i:Int))))
 else (Hp L a0 k (i+1) Ak)) else none) else none)
 else (Hp L a0 k (i+1) Ak)))))
theorem Atx(L:Nat)(a0:Af)(n:Nat)(hl:a0.Shift.length≤maxLen)(hn:a0.Shift.length < n):∀(Ak:Int),Jb L a0 n Ak 0=Hp L a0 a0.Shift 0 Ak:=lQ (fun k i n=>∀(Ak:Int),Jb L a0 n Ak (i:Int)=Hp L a0 k i Ak) hl hn (fun n i h Ak=>by simp only [Jb,Us,Hp,Eo h,aN,aB,cond_false]) (fun n i x k h hx ih Ak=>by simp only [Jb,Us,Hp,Ed h,nn,Ky h,Ix,hx,Bb h hl,ih,aN,aB,cond_true,if_true,decide_true,Ab.eta,Ab.cp_eq,Ac.eta,Ac.cp_eq])
def Jd(L:Nat)(a0:List Int)(a1:List Int):List Int→Nat→Bool→Option (Nat×Bool×Int)
 | [],i,Am=>(some (1,(Am,(i:Int))))
 |x::k,i,Am=>(if ((i:Int) < (a1.length:Int)) then (bif (x != (a1.getD (Int.toNat (i:Int)) default)) then (some (0,(false,(i:Int))))
 else (Jd L a0 a1 k (i+1) Am)) else none)
theorem Atw(L:Nat)(a0:List Int)(a1:List Int)(n:Nat)(hl:a0.length≤maxLen)(hn:a0.length < n):∀(Am:Bool),Ja L a0 a1 n Am 0=Jd L a0 a1 a0 0 Am:=lQ (fun k i n=>∀(Am:Bool),Ja L a0 a1 n Am (i:Int)=Jd L a0 a1 k i Am) hl hn (fun n i h Am=>by simp only [Ja,Ur,Jd,Eo h,aN,aB,cond_false]) (fun n i x k h hx ih Am=>by simp only [Ja,Ur,Jd,Ed h,nn,Ky h,Ix,hx,Bb h hl,ih,aN,aB,cond_true,if_true,decide_true,Ab.eta,Ab.cp_eq,Ac.eta,Ac.cp_eq])
def On(L:Nat)(a0:Bf):List Int→Nat→Int→Option (Nat×Int×Int)
 | [],i,Ak=>(some (1,(Ak,(i:Int))))
 |x::k,i,Ak=>(Option.bind (F3 L x 0 1000000000) fun r1=>
 (Option.bind (bif (!r1) then (some true)
 else (if (0≤(i:Int)) then (if ((i:Int) < (a0.Weights.length:Int)) then (Option.bind (F3 L (a0.Weights.getD (Int.toNat (i:Int)) default) 1 1000) fun r3=>
 (some (!r3))) else none) else none)) fun b2=>
 (bif b2 then (some (0,(2,(i:Int))))
 else (On L a0 k (i+1) Ak))))
theorem A0e(L:Nat)(a0:Bf)(n:Nat)(hl:a0.Values.length≤maxLen)(hn:a0.Values.length < n):∀(Ak:Int),N4 L a0 n Ak 0=On L a0 a0.Values 0 Ak:=lQ (fun k i n=>∀(Ak:Int),N4 L a0 n Ak (i:Int)=On L a0 k i Ak) hl hn (fun n i h Ak=>by simp only [N4,y7,On,Eo h,aN,aB,cond_false]) (fun n i x k h hx ih Ak=>by simp only [N4,y7,On,Ed h,nn,Ky h,Ix,hx,Bb h hl,ih,aN,aB,cond_true,if_true,decide_true,Ab.eta,Ab.cp_eq,Ac.eta,Ac.cp_eq])
def Lh(D8:(List Ac)→Option Int)(L:Nat)(a0:List Ac):List Ac→Nat→Int→Option (Nat×Int×Int)
 | [],i,Am=>(some (0,(Am,(i:Int))))
 |x::k,i,Am=>(Option.bind (D8 (x.Body)) fun r1=>
 (Option.bind (D8 (x.Else)) fun r2=>
 (Lh D8 L a0 k (i+1) (if (Da (1+r2)) > (if (Da (1+r1)) > Am then (Da (1+r1)) else Am) then (Da (1+r2)) else (if (Da (1+r1)) > Am then (Da (1+r1)) else Am)))))
theorem A0i(D8:(List Ac)→Option Int)(L:Nat)(a0:List Ac)(n:Nat)(hl:a0.length≤maxLen)(hn:a0.length < n):∀(Am:Int),N9 D8 L a0 n Am 0=Lh D8 L a0 a0 0 Am:=lQ (fun k i n=>∀(Am:Int),N9 D8 L a0 n Am (i:Int)=Lh D8 L a0 k i Am) hl hn (fun n i h Am=>by simp only [N9,Aab,Lh,Eo h,aN,aB,cond_false]) (fun n i x k h hx ih Am=>by simp only [N9,Aab,Lh,Ed h,nn,Ky h,Ix,hx,Bb h hl,ih,aN,aB,cond_true,if_true,decide_true,Ab.eta,Ab.cp_eq,Ac.eta,Ac.cp_eq])
def Oq(Hy:Ab→Option Int)(L:Nat)(a0:Ab):List Ab→Nat→Int→Option (Nat×Int×Int)
 | [],i,Ag=>(some (0,(Ag,(i:Int))))
 |x::k,i,Ag=>(Option.bind (Hy x) fun r1=>
 (Oq Hy L a0 k (i+1) (Da (Ag+r1))))
theorem A0g(Hy:Ab→Option Int)(L:Nat)(a0:Ab)(n:Nat)(hl:a0.Kids.length≤maxLen)(hn:a0.Kids.length < n):∀(Ag:Int),N7 Hy L a0 n Ag 0=Oq Hy L a0 a0.Kids 0 Ag:=lQ (fun k i n=>∀(Ag:Int),N7 Hy L a0 n Ag (i:Int)=Oq Hy L a0 k i Ag) hl hn (fun n i h Ag=>by simp only [N7,y9,Oq,Eo h,aN,aB,cond_false]) (fun n i x k h hx ih Ag=>by simp only [N7,y9,Oq,Ed h,nn,Ky h,Ix,hx,Bb h hl,ih,aN,aB,cond_true,if_true,decide_true,Ab.eta,Ab.cp_eq,Ac.eta,Ac.cp_eq])
def Oo(Hz:Ab→Option Int)(L:Nat)(a0:Ab):List Ab→Nat→Int→Option (Nat×Int×Int)
 | [],i,Ag=>(some (0,(Ag,(i:Int))))
 |x::k,i,Ag=>(Option.bind (Hz x) fun r1=>
 (Oo Hz L a0 k (i+1) (if r1 > Ag then r1 else Ag)))
theorem A0f(Hz:Ab→Option Int)(L:Nat)(a0:Ab)(n:Nat)(hl:a0.Kids.length≤maxLen)(hn:a0.Kids.length < n):∀(Ag:Int),N6 Hz L a0 n Ag 0=Oo Hz L a0 a0.Kids 0 Ag:=lQ (fun k i n=>∀(Ag:Int),N6 Hz L a0 n Ag (i:Int)=Oo Hz L a0 k i Ag) hl hn (fun n i h Ag=>by simp only [N6,y8,Oo,Eo h,aN,aB,cond_false]) (fun n i x k h hx ih Ag=>by simp only [N6,y8,Oo,Ed h,nn,Ky h,Ix,hx,Bb h hl,ih,aN,aB,cond_true,if_true,decide_true,Ab.eta,Ab.cp_eq,Ac.eta,Ac.cp_eq])
def Nr(Bu:Ab→Bool→Option Int)(L:Nat)(a1:Bool)(a0:Ab):List Ab→Nat→Int→Option (Nat×Int×Int)
 | [],i,Ag=>(some (1,(Ag,(i:Int))))
 |x::k,i,Ag=>(Option.bind (Bu x a1) fun r22=>
 (bif (r22 != 0) then (some (0,(r22,(i:Int))))
 else (Nr Bu L a1 a0 k (i+1) Ag)))
theorem A3q(Bu:Ab→Bool→Option Int)(L:Nat)(a1:Bool)(a0:Ab)(n:Nat)(hl:a0.Kids.length≤maxLen)(hn:a0.Kids.length < n):∀(Ag:Int),No Bu L a1 a0 n Ag 0=Nr Bu L a1 a0 a0.Kids 0 Ag:=lQ (fun k i n=>∀(Ag:Int),No Bu L a1 a0 n Ag (i:Int)=Nr Bu L a1 a0 k i Ag) hl hn (fun n i h Ag=>by simp only [No,Aeu,Nr,Eo h,aN,aB,cond_false]) (fun n i x k h hx ih Ag=>by simp only [No,Aeu,Nr,Ed h,nn,Ky h,Ix,hx,Bb h hl,ih,aN,aB,cond_true,if_true,decide_true,Ab.eta,Ab.cp_eq,Ac.eta,Ac.cp_eq])
def I1(Dl:(List Ac)→Option Int)(L:Nat)(a0:List Ac):List Ac→Nat→Int→Option (Nat×Int×Int)
 | [],i,Ag=>(some (1,(Ag,(i:Int))))
 |x::k,i,Ag=>(Option.bind (Ald L x) fun r1=>
 (bif (r1 == 0) then (Option.bind (Dl (x.Body)) fun r2=>
 (bif (r2 == 0) then (Option.bind (Dl (x.Else)) fun r3=>
 (bif (r3 != 0) then (some (0,(r3,(i:Int))))
 else (I1 Dl L a0 k (i+1) Ag)))
 else (bif (r2 != 0) then (some (0,(r2,(i:Int))))
 else (I1 Dl L a0 k (i+1) Ag))))
 else (bif (r1 == 0) then (Option.bind (Dl (x.Else)) fun r4=>
 (bif (r4 != 0) then (some (0,(r4,(i:Int))))
 else (I1 Dl L a0 k (i+1) Ag)))
 else (bif (r1 != 0) then (some (0,(r1,(i:Int))))
 else (I1 Dl L a0 k (i+1) Ag)))))
theorem A3r(Dl:(List Ac)→Option Int)(L:Nat)(a0:List Ac)(n:Nat)(hl:a0.length≤maxLen)(hn:a0.length < n):∀(Ag:Int),Qy Dl L a0 n Ag 0=I1 Dl L a0 a0 0 Ag:=lQ (fun k i n=>∀(Ag:Int),Qy Dl L a0 n Ag (i:Int)=I1 Dl L a0 k i Ag) hl hn (fun n i h Ag=>by simp only [Qy,Aev,I1,Eo h,aN,aB,cond_false]) (fun n i x k h hx ih Ag=>by simp only [Qy,Aev,I1,Ed h,nn,Ky h,Ix,hx,Bb h hl,ih,aN,aB,cond_true,if_true,decide_true,Ab.eta,Ab.cp_eq,Ac.eta,Ac.cp_eq])
def Ki(L:Nat)(a0:Ai):List Ao→Nat→Int→List ByteArray→Option (Nat×Int×List ByteArray×Int)
 | [],i,Ak,Ag=>(some (1,(Ak,Ag,(i:Int))))
 |x::k,i,Ak,Ag=>(Option.bind (Nk L (x.Name) Ag) fun r2=>
 (Option.bind (Ve L (x.Type_)) fun r3=>
 (Option.bind (Ck L r3 1) fun r4=>
 (Option.bind (C3 L r2 r4) fun r5=>
 (bif (r5 != 0) then (some (0,(r5,Ag,(i:Int))))
 else (if ((Ag.length+ [x.Name].length)*16≤140737488355328) then (if (Ag.length+ [x.Name].length≤maxLen) then (Ki L a0 k (i+1) Ak (Ag++ [x.Name])) else none) else none))))))
theorem Avk(L:Nat)(a0:Ai)(n:Nat)(hl:(a0.Params++a0.Locals).length≤maxLen)(hn:(a0.Params++a0.Locals).length < n):∀(Ak:Int) (Ag:List ByteArray),J7 L a0 n Ak Ag 0=Ki L a0 (a0.Params++a0.Locals) 0 Ak Ag:=lQ (fun k i n=>∀(Ak:Int) (Ag:List ByteArray),J7 L a0 n Ak Ag (i:Int)=Ki L a0 k i Ak Ag) hl hn (fun n i h Ak Ag=>by simp only [J7,Wv,Ki,Eo h,aN,aB,cond_false]) (fun n i x k h hx ih Ak Ag=>by simp only [J7,Wv,Ki,Ed h,nn,Ky h,Ix,hx,Bb h hl,ih,aN,aB,cond_true,if_true,decide_true,Ab.eta,Ab.cp_eq,Ac.eta,Ac.cp_eq])
def Lo(L:Nat)(a0:Aa)(r1:Int)(a1:Bh):List Ao→Nat→Int→Option (Nat×Int×Int)
 | [],i,Ak=>(some (1,(Ak,(i:Int))))
 |x::k,i,Ak=>(if ((i:Int) < (a1.Args.length:Int)) then (Option.bind (Z6 L (x.Type_) (a1.Args.getD (Int.toNat (i:Int)) default)) fun r2=>
 (bif (!r2) then (some (0,(2,(i:Int))))
 else (Lo L a0 r1 a1 k (i+1) Ak))) else none)
theorem A0r(L:Nat)(a0:Aa)(r1:Int)(a1:Bh)(n:Nat)(hl:((a0.Routines.getD (Int.toNat r1) default).Params).length≤maxLen)(hn:((a0.Routines.getD (Int.toNat r1) default).Params).length < n):∀(Ak:Int),Oi L a0 r1 a1 n Ak 0=Lo L a0 r1 a1 ((a0.Routines.getD (Int.toNat r1) default).Params) 0 Ak:=lQ (fun k i n=>∀(Ak:Int),Oi L a0 r1 a1 n Ak (i:Int)=Lo L a0 r1 a1 k i Ak) hl hn (fun n i h Ak=>by simp only [Oi,Aak,Lo,Eo h,aN,aB,cond_false]) (fun n i x k h hx ih Ak=>by simp only [Oi,Aak,Lo,Ed h,nn,Ky h,Ix,hx,Bb h hl,ih,aN,aB,cond_true,if_true,decide_true,Ab.eta,Ab.cp_eq,Ac.eta,Ac.cp_eq])
def Uf(L:Nat)(a1:ByteArray)(r1:List (List ByteArray))(a0:Aa):List ((List ByteArray))→Nat→ByteArray→Option (Nat×ByteArray×Int)
 | [],i,Ag=>(some (1,(Ag,(i:Int))))
 |x::k,i,Ag=>(Option.bind (L2 L x a1) fun r2=>
 (bif (decide (r2≥0)) then (if ((i:Int) < (([(⟨#[118,97,114]⟩:ByteArray),(⟨#[114,101,115,111,117,114,99,101]⟩:ByteArray),(⟨#[115,116,111,114,101]⟩:ByteArray),(⟨#[98,101,108,116]⟩:ByteArray),(⟨#[113,117,101,117,101]⟩:ByteArray),(⟨#[115,116,114,101,97,109]⟩:ByteArray),(⟨#[116,97,108,108,121]⟩:ByteArray),(⟨#[108,101,118,101,108]⟩:ByteArray),(⟨#[99,111,117,110,116]⟩:ByteArray),(⟨#[114,111,117,116,105,110,101]⟩:ByteArray)].length:Nat):Int)) then (some (0,(([(⟨#[118,97,114]⟩:ByteArray),(⟨#[114,101,115,111,117,114,99,101]⟩:ByteArray),(⟨#[115,116,111,114,101]⟩:ByteArray),(⟨#[98,101,108,116]⟩:ByteArray),(⟨#[113,117,101,117,101]⟩:ByteArray),(⟨#[115,116,114,101,97,109]⟩:ByteArray),(⟨#[116,97,108,108,121]⟩:ByteArray),(⟨#[108,101,118,101,108]⟩:ByteArray),(⟨#[99,111,117,110,116]⟩:ByteArray),(⟨#[114,111,117,116,105,110,101]⟩:ByteArray)].getD (Int.toNat (i:Int)) default),(i:Int)))) else none)
 else (Uf L a1 r1 a0 k (i+1) Ag)))
theorem A3s(L:Nat)(a1:ByteArray)(r1:List (List ByteArray))(a0:Aa)(n:Nat)(hl:r1.length≤maxLen)(hn:r1.length < n):∀(Ag:ByteArray),Qz L a1 r1 a0 n Ag 0=Uf L a1 r1 a0 r1 0 Ag:=lQ (fun k i n=>∀(Ag:ByteArray),Qz L a1 r1 a0 n Ag (i:Int)=Uf L a1 r1 a0 k i Ag) hl hn (fun n i h Ag=>by simp only [Qz,Aew,Uf,Eo h,aN,aB,cond_false]) (fun n i x k h hx ih Ag=>by simp only [Qz,Aew,Uf,Ed h,nn,Ky h,Ix,hx,Bb h hl,ih,aN,aB,cond_true,if_true,decide_true,Ab.eta,Ab.cp_eq,Ac.eta,Ac.cp_eq])
def Qf(L:Nat)(a0:Aa)(a1:Ax):List Au→Nat→Int→Option (Nat×Int×Int)
 | [],i,Ag=>(some (0,(Ag,(i:Int))))
 |x::k,i,Ag=>(Option.bind (Ah0 L a0 x) fun r6=>
 (Option.bind (C3 L Ag r6) fun r7=>
 (Qf L a0 a1 k (i+1) r7)))
theorem A5y(L:Nat)(a0:Aa)(a1:Ax)(n:Nat)(hl:a1.Terms.length≤maxLen)(hn:a1.Terms.length < n):∀(Ag:Int),Tg L a0 a1 n Ag 0=Qf L a0 a1 a1.Terms 0 Ag:=lQ (fun k i n=>∀(Ag:Int),Tg L a0 a1 n Ag (i:Int)=Qf L a0 a1 k i Ag) hl hn (fun n i h Ag=>by simp only [Tg,Ahj,Qf,Eo h,aN,aB,cond_false]) (fun n i x k h hx ih Ag=>by simp only [Tg,Ahj,Qf,Ed h,nn,Ky h,Ix,hx,Bb h hl,ih,aN,aB,cond_true,if_true,decide_true,Ab.eta,Ab.cp_eq,Ac.eta,Ac.cp_eq])
def I2(L:Nat)(r1:List (List ByteArray))(a0:Aa):List ((List ByteArray))→Nat→Int→List ByteArray→Option (Nat×Int×List ByteArray×Int)
 | [],i,Ak,Ag=>(some (1,(Ak,Ag,(i:Int))))
 |x::k,i,Ak,Ag=>(Option.bind (bif (decide ((x.length:Int) > 32)) then (some true)
 else (bif ((i:Int) == 9) then (if (0≤(i:Int)) then (if ((i:Int) < (r1.length:Int)) then (some (decide ((x.length:Int) > 16))) else none) else none)
 else (some false))) fun b2=>
 (bif b2 then (some (0,(6,Ag,(i:Int))))
 else (Option.bind (Nq L r1 (i:Int) a0 L Ak Ag 0) fun o6=>
 (Arf o6.1 [(some (0,(o6.2.1,o6.2.2.1,(i:Int)))),(I2 L r1 a0 k (i+1) o6.2.1 o6.2.2.1)]))))
theorem A3v(L:Nat)(r1:List (List ByteArray))(a0:Aa)(n:Nat)(hl:r1.length≤maxLen)(hn:r1.length < n):∀(Ak:Int) (Ag:List ByteArray),Np L r1 a0 n Ak Ag 0=I2 L r1 a0 r1 0 Ak Ag:=lQ (fun k i n=>∀(Ak:Int) (Ag:List ByteArray),Np L r1 a0 n Ak Ag (i:Int)=I2 L r1 a0 k i Ak Ag) hl hn (fun n i h Ak Ag=>by simp only [Np,Akq,Afd,Y0,I2,Eo h,aN,aB,cond_false]) (fun n i x k h hx ih Ak Ag=>by simp only [Np,Akq,Afd,Y0,I2,Ed h,nn,Ky h,Ix,hx,Bb h hl,ih,aN,aB,cond_true,if_true,decide_true,Ab.eta,Ab.cp_eq,Ac.eta,Ac.cp_eq])
def Ug(L:Nat)(a0:Aa):List Bh→Nat→Int→Option (Nat×Int×Int)
 | [],i,Gd=>(some (1,(Gd,(i:Int))))
 |x::k,i,Gd=>(Option.bind (j9 L a0 x) fun r8=>
 (bif (r8 != 0) then (some (0,(r8,(i:Int))))
 else (Ug L a0 k (i+1) Gd)))
theorem A3w(L:Nat)(a0:Aa)(n:Nat)(hl:a0.Starts.length≤maxLen)(hn:a0.Starts.length < n):∀(Gd:Int),Rb L a0 n Gd 0=Ug L a0 a0.Starts 0 Gd:=lQ (fun k i n=>∀(Gd:Int),Rb L a0 n Gd (i:Int)=Ug L a0 k i Gd) hl hn (fun n i h Gd=>by simp only [Rb,Ae0,Ug,Eo h,aN,aB,cond_false]) (fun n i x k h hx ih Gd=>by simp only [Rb,Ae0,Ug,Ed h,nn,Ky h,Ix,hx,Bb h hl,ih,aN,aB,cond_true,if_true,decide_true,Ab.eta,Ab.cp_eq,Ac.eta,Ac.cp_eq])
def Ri(L:Nat)(a0:Aa):List Ax→Nat→Int→List ByteArray→Option (Nat×Int×List ByteArray×Int)
 | [],i,K3,Jj=>(some (1,(K3,Jj,(i:Int))))
 |x::k,i,K3,Jj=>(Option.bind (Ale L a0 x Jj) fun r10=>
 (bif (r10 != 0) then (some (0,(r10,Jj,(i:Int))))
 else (if ((Jj.length+ [x.Name].length)*16≤140737488355328) then (if (Jj.length+ [x.Name].length≤maxLen) then (Ri L a0 k (i+1) K3 (Jj++ [x.Name])) else none) else none)))
theorem A3x(L:Nat)(a0:Aa)(n:Nat)(hl:a0.Laws.length≤maxLen)(hn:a0.Laws.length < n):∀(K3:Int) (Jj:List ByteArray),Rc L a0 n K3 Jj 0=Ri L a0 a0.Laws 0 K3 Jj:=lQ (fun k i n=>∀(K3:Int) (Jj:List ByteArray),Rc L a0 n K3 Jj (i:Int)=Ri L a0 k i K3 Jj) hl hn (fun n i h K3 Jj=>by simp only [Rc,Ae1,Ri,Eo h,aN,aB,cond_false]) (fun n i x k h hx ih K3 Jj=>by simp only [Rc,Ae1,Ri,Ed h,nn,Ky h,Ix,hx,Bb h hl,ih,aN,aB,cond_true,if_true,decide_true,Ab.eta,Ab.cp_eq,Ac.eta,Ac.cp_eq])
def Rh(L:Nat)(a1:ByteArray)(a0:Ad):List Aa→Nat→Int→Option (Nat×Int×Int)
 | [],i,Ag=>(some (1,(Ag,(i:Int))))
 |x::k,i,Ag=>(bif ((x.Name).toList == a1.toList) then (some (0,((i:Int),(i:Int))))
 else (Rh L a1 a0 k (i+1) Ag))
theorem A3u(L:Nat)(a1:ByteArray)(a0:Ad)(n:Nat)(hl:a0.Sites.length≤maxLen)(hn:a0.Sites.length < n):∀(Ag:Int),Ra L a1 a0 n Ag 0=Rh L a1 a0 a0.Sites 0 Ag:=lQ (fun k i n=>∀(Ag:Int),Ra L a1 a0 n Ag (i:Int)=Rh L a1 a0 k i Ag) hl hn (fun n i h Ag=>by simp only [Ra,Aey,Rh,Eo h,aN,aB,cond_false]) (fun n i x k h hx ih Ag=>by simp only [Ra,Aey,Rh,Ed h,nn,Ky h,Ix,hx,Bb h hl,ih,aN,aB,cond_true,if_true,decide_true,Ab.eta,Ab.cp_eq,Ac.eta,Ac.cp_eq])
def Ln(L:Nat)(a0:Ad):List Bg→Nat→Int→Option (Nat×Int×Int)
 | [],i,Ak=>(some (1,(Ak,(i:Int))))
 |x::k,i,Ak=>(Option.bind (Vd L a0 (x.From)) fun r1=>
 (Option.bind (bif (decide (r1 < 0)) then (some true)
 else (Option.bind (Vd L a0 (x.To)) fun r3=>
 (some (decide (r3 < 0))))) fun b2=>
 (bif b2 then (some (0,(5,(i:Int))))
 else (bif ((x.From).toList == (x.To).toList) then (some (0,(1,(i:Int))))
 else (Option.bind (Dr L (x.Delay) 1 1000000000) fun r4=>
 (bif (!r4) then (some (0,(2,(i:Int))))
 else (Option.bind (Lc L (i:Int) a0 L Ak 0) fun o5=>
 (Arf o5.1 [(some (0,(o5.2.1,(i:Int)))),(Ln L a0 k (i+1) o5.2.1)]))))))))
theorem A0q(L:Nat)(a0:Ad)(n:Nat)(hl:a0.Links.length≤maxLen)(hn:a0.Links.length < n):∀(Ak:Int),Lb L a0 n Ak 0=Ln L a0 a0.Links 0 Ak:=lQ (fun k i n=>∀(Ak:Int),Lb L a0 n Ak (i:Int)=Ln L a0 k i Ak) hl hn (fun n i h Ak=>by simp only [Lb,Aip,Abu,V7,Ln,Eo h,aN,aB,cond_false]) (fun n i x k h hx ih Ak=>by simp only [Lb,Aip,Abu,V7,Ln,Ed h,nn,Ky h,Ix,hx,Bb h hl,ih,aN,aB,cond_true,if_true,decide_true,Ab.eta,Ab.cp_eq,Ac.eta,Ac.cp_eq])
def Ot(L:Nat)(a0:Ad):List Al→Nat→Int→Int→List ByteArray→Option (Nat×Int×Int×List ByteArray×Int)
 | [],i,Ak,Ag,Am=>(some (1,(Ak,Ag,Am,(i:Int))))
 |x::k,i,Ak,Ag,Am=>(Option.bind (Afk L x Am) fun r4=>
 (bif (r4 != 0) then (some (0,(r4,r4,Am,(i:Int))))
 else (if ((Am.length+ [x.Name].length)*16≤140737488355328) then (if (Am.length+ [x.Name].length≤maxLen) then (Ot L a0 k (i+1) Ak r4 (Am++ [x.Name])) else none) else none)))
theorem A0j(L:Nat)(a0:Ad)(n:Nat)(hl:a0.Params.length≤maxLen)(hn:a0.Params.length < n):∀(Ak:Int) (Ag:Int) (Am:List ByteArray),Oa L a0 n Ak Ag Am 0=Ot L a0 a0.Params 0 Ak Ag Am:=lQ (fun k i n=>∀(Ak:Int) (Ag:Int) (Am:List ByteArray),Oa L a0 n Ak Ag Am (i:Int)=Ot L a0 k i Ak Ag Am) hl hn (fun n i h Ak Ag Am=>by simp only [Oa,Aac,Ot,Eo h,aN,aB,cond_false]) (fun n i x k h hx ih Ak Ag Am=>by simp only [Oa,Aac,Ot,Ed h,nn,Ky h,Ix,hx,Bb h hl,ih,aN,aB,cond_true,if_true,decide_true,Ab.eta,Ab.cp_eq,Ac.eta,Ac.cp_eq])
def Ou(L:Nat)(a0:Ad):List Aa→Nat→Int→Int→List ByteArray→Option (Nat×Int×Int×List ByteArray×Int)
 | [],i,B5,C1,Iz=>(some (1,(B5,C1,Iz,(i:Int))))
 |x::k,i,B5,C1,Iz=>(Option.bind (Nk L (x.Name) Iz) fun r9=>
 (Option.bind (Ahz L x) fun r10=>
 (Option.bind (C3 L r9 r10) fun r11=>
 (bif (r11 != 0) then (some (0,(r11,r11,Iz,(i:Int))))
 else (if ((Iz.length+ [x.Name].length)*16≤140737488355328) then (if (Iz.length+ [x.Name].length≤maxLen) then (Ou L a0 k (i+1) B5 r11 (Iz++ [x.Name])) else none) else none)))))
theorem A0k(L:Nat)(a0:Ad)(n:Nat)(hl:a0.Sites.length≤maxLen)(hn:a0.Sites.length < n):∀(B5:Int) (C1:Int) (Iz:List ByteArray),Ob L a0 n B5 C1 Iz 0=Ou L a0 a0.Sites 0 B5 C1 Iz:=lQ (fun k i n=>∀(B5:Int) (C1:Int) (Iz:List ByteArray),Ob L a0 n B5 C1 Iz (i:Int)=Ou L a0 k i B5 C1 Iz) hl hn (fun n i h B5 C1 Iz=>by simp only [Ob,Aad,Ou,Eo h,aN,aB,cond_false]) (fun n i x k h hx ih B5 C1 Iz=>by simp only [Ob,Aad,Ou,Ed h,nn,Ky h,Ix,hx,Bb h hl,ih,aN,aB,cond_true,if_true,decide_true,Ab.eta,Ab.cp_eq,Ac.eta,Ac.cp_eq])
def Mj(L:Nat)(a0:List Al)(a1:ByteArray):List Al→Nat→Int→Bool→Option (Nat×Int×Bool×Int)
 | [],i,Am,Ah=>(some (1,(Am,Ah,(i:Int))))
 |x::k,i,Am,Ah=>(bif ((x.Name).toList == a1.toList) then (some (0,((x.Type_),true,(i:Int))))
 else (Mj L a0 a1 k (i+1) Am Ah))
theorem Axc(L:Nat)(a0:List Al)(a1:ByteArray)(n:Nat)(hl:a0.length≤maxLen)(hn:a0.length < n):∀(Am:Int) (Ah:Bool),L4 L a0 a1 n Am Ah 0=Mj L a0 a1 a0 0 Am Ah:=lQ (fun k i n=>∀(Am:Int) (Ah:Bool),L4 L a0 a1 n Am Ah (i:Int)=Mj L a0 a1 k i Am Ah) hl hn (fun n i h Am Ah=>by simp only [L4,Zb,Mj,Eo h,aN,aB,cond_false]) (fun n i x k h hx ih Am Ah=>by simp only [L4,Zb,Mj,Ed h,nn,Ky h,Ix,hx,Bb h hl,ih,aN,aB,cond_true,if_true,decide_true,Ab.eta,Ab.cp_eq,Ac.eta,Ac.cp_eq])
def Lq(Hu:Aq→Ab→Option (Int×Int))(L:Nat)(a0:Aq)(a1:Ab):List Ab→Nat→Int→Int→List Int→Option (Nat×Int×Int×List Int×Int)
 | [],i,Ak,Ag,Am=>(some (1,(Ak,Ag,Am,(i:Int))))
 |x::k,i,Ak,Ag,Am=>(Option.bind (Hu a0 x) fun r1=>
 (bif (r1.2 != 0) then (some (0,(0,r1.2,Am,(i:Int))))
 else (if ((Am.length+ [r1.1].length)*8≤140737488355328) then (if (Am.length+ [r1.1].length≤maxLen) then (Lq Hu L a0 a1 k (i+1) Ak Ag (Am++ [r1.1])) else none) else none)))
theorem A0u(Hu:Aq→Ab→Option (Int×Int))(L:Nat)(a0:Aq)(a1:Ab)(n:Nat)(hl:a1.Kids.length≤maxLen)(hn:a1.Kids.length < n):∀(Ak:Int) (Ag:Int) (Am:List Int),Ol Hu L a0 a1 n Ak Ag Am 0=Lq Hu L a0 a1 a1.Kids 0 Ak Ag Am:=lQ (fun k i n=>∀(Ak:Int) (Ag:Int) (Am:List Int),Ol Hu L a0 a1 n Ak Ag Am (i:Int)=Lq Hu L a0 a1 k i Ak Ag Am) hl hn (fun n i h Ak Ag Am=>by simp only [Ol,Aan,Lq,Eo h,aN,aB,cond_false]) (fun n i x k h hx ih Ak Ag Am=>by simp only [Ol,Aan,Lq,Ed h,nn,Ky h,Ix,hx,Bb h hl,ih,aN,aB,cond_true,if_true,decide_true,Ab.eta,Ab.cp_eq,Ac.eta,Ac.cp_eq])
def Rj(L:Nat)(a2:List Ao)(a0:Aq)(a1:Ac):List Ao→Nat→Int→Option (Nat×Int×Int)
 | [],i,Ag=>(some (1,(Ag,(i:Int))))
 |x::k,i,Ag=>(if ((i:Int) < (a1.Args.length:Int)) then (Option.bind (Ij L a0 (a1.Args.getD (Int.toNat (i:Int)) default) (x.Type_) (x.Type_)) fun r1=>
 (bif (r1 != 0) then (some (0,(r1,(i:Int))))
 else (Rj L a2 a0 a1 k (i+1) Ag))) else none)
theorem A3y(L:Nat)(a2:List Ao)(a0:Aq)(a1:Ac)(n:Nat)(hl:a2.length≤maxLen)(hn:a2.length < n):∀(Ag:Int),Re L a2 a0 a1 n Ag 0=Rj L a2 a0 a1 a2 0 Ag:=lQ (fun k i n=>∀(Ag:Int),Re L a2 a0 a1 n Ag (i:Int)=Rj L a2 a0 a1 k i Ag) hl hn (fun n i h Ag=>by simp only [Re,Ae2,Rj,Eo h,aN,aB,cond_false]) (fun n i x k h hx ih Ag=>by simp only [Re,Ae2,Rj,Ed h,nn,Ky h,Ix,hx,Bb h hl,ih,aN,aB,cond_true,if_true,decide_true,Ab.eta,Ab.cp_eq,Ac.eta,Ac.cp_eq])
def Rg(L:Nat)(a1:ByteArray)(a2:ByteArray)(a0:Ad):List Bg→Nat→Int→Bool→Option (Nat×Int×Bool×Int)
 | [],i,Am,Ah=>(some (1,(Am,Ah,(i:Int))))
 |x::k,i,Am,Ah=>(Option.bind (bif ((x.From).toList == a1.toList) then (if (0≤(i:Int)) then (if ((i:Int) < (a0.Links.length:Int)) then (some ((x.To).toList == a2.toList)) else none) else none)
 else (some false)) fun b1=>
 (bif b1 then (some (0,((x.Delay),true,(i:Int))))
 else (Rg L a1 a2 a0 k (i+1) Am Ah)))
theorem A3t(L:Nat)(a1:ByteArray)(a2:ByteArray)(a0:Ad)(n:Nat)(hl:a0.Links.length≤maxLen)(hn:a0.Links.length < n):∀(Am:Int) (Ah:Bool),Q0 L a1 a2 a0 n Am Ah 0=Rg L a1 a2 a0 a0.Links 0 Am Ah:=lQ (fun k i n=>∀(Am:Int) (Ah:Bool),Q0 L a1 a2 a0 n Am Ah (i:Int)=Rg L a1 a2 a0 k i Am Ah) hl hn (fun n i h Am Ah=>by simp only [Q0,Aex,Rg,Eo h,aN,aB,cond_false]) (fun n i x k h hx ih Am Ah=>by simp only [Q0,Aex,Rg,Ed h,nn,Ky h,Ix,hx,Bb h hl,ih,aN,aB,cond_true,if_true,decide_true,Ab.eta,Ab.cp_eq,Ac.eta,Ac.cp_eq])
def Hs(F7:Ad→Aq→(List Ac)→Option Int)(L:Nat)(a2:List Ac)(a0:Ad)(a1:Aq):List Ac→Nat→Int→Option (Nat×Int×Int)
 | [],i,Ag=>(some (1,(Ag,(i:Int))))
 |x::k,i,Ag=>(Option.bind (Ah2 L a0 a1 x) fun r1=>
 (bif (r1 == 0) then (Option.bind (F7 a0 a1 (x.Body)) fun r2=>
 (bif (r2 == 0) then (Option.bind (F7 a0 a1 (x.Else)) fun r3=>
 (bif (r3 != 0) then (some (0,(r3,(i:Int))))
 else (Hs F7 L a2 a0 a1 k (i+1) Ag)))
 else (bif (r2 != 0) then (some (0,(r2,(i:Int))))
 else (Hs F7 L a2 a0 a1 k (i+1) Ag))))
 else (bif (r1 == 0) then (Option.bind (F7 a0 a1 (x.Else)) fun r4=>
 (bif (r4 != 0) then (some (0,(r4,(i:Int))))
 else (Hs F7 L a2 a0 a1 k (i+1) Ag)))
 else (bif (r1 != 0) then (some (0,(r1,(i:Int))))
 else (Hs F7 L a2 a0 a1 k (i+1) Ag)))))
theorem A0t(F7:Ad→Aq→(List Ac)→Option Int)(L:Nat)(a2:List Ac)(a0:Ad)(a1:Aq)(n:Nat)(hl:a2.length≤maxLen)(hn:a2.length < n):∀(Ag:Int),Ok F7 L a2 a0 a1 n Ag 0=Hs F7 L a2 a0 a1 a2 0 Ag:=lQ (fun k i n=>∀(Ag:Int),Ok F7 L a2 a0 a1 n Ag (i:Int)=Hs F7 L a2 a0 a1 k i Ag) hl hn (fun n i h Ag=>by simp only [Ok,Aam,Hs,Eo h,aN,aB,cond_false]) (fun n i x k h hx ih Ag=>by simp only [Ok,Aam,Hs,Ed h,nn,Ky h,Ix,hx,Bb h hl,ih,aN,aB,cond_true,if_true,decide_true,Ab.eta,Ab.cp_eq,Ac.eta,Ac.cp_eq])
def Lp(L:Nat)(a0:Ad):List Aa→Nat→Int→Option (Nat×Int×Int)
 | [],i,Ag=>(some (0,(Ag,(i:Int))))
 |x::k,i,Ag=>(Option.bind (Lf L (i:Int) a0 L Ag 0) fun o4=>
 (Arf o4.1 [(Lp L a0 k (i+1) o4.2.1)]))
theorem A0s(L:Nat)(a0:Ad)(n:Nat)(hl:a0.Sites.length≤maxLen)(hn:a0.Sites.length < n):∀(Ag:Int),Ld L a0 n Ag 0=Lp L a0 a0.Sites 0 Ag:=lQ (fun k i n=>∀(Ag:Int),Ld L a0 n Ag (i:Int)=Lp L a0 k i Ag) hl hn (fun n i h Ag=>by simp only [Ld,Aiq,Aby,Wb,Lp,Eo h,aN,aB,cond_false]) (fun n i x k h hx ih Ag=>by simp only [Ld,Aiq,Aby,Wb,Lp,Ed h,nn,Ky h,Ix,hx,Bb h hl,ih,aN,aB,cond_true,if_true,decide_true,Ab.eta,Ab.cp_eq,Ac.eta,Ac.cp_eq])
end Go.Proofs.YtogleahbpobaiaaGreat.Ev
