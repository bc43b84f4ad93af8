import Derived.Test.YtfencmicmnhglaaGreatG1
import Derived.Test.YtfencmicmnhglaaGreatPa
import Derived.Test.YtfencmicmnhglaaGreatG2
import Derived.Test.YtfencmicmnhglaaGreatG3
import Derived.Test.YtfencmicmnhglaaGreatG4
import Derived.Test.YtfencmicmnhglaaGreatG5
import Derived.Test.YtfencmicmnhglaaGreatG6
import Derived.Test.YtfencmicmnhglaaGreatG7
import Derived.Test.YtfencmicmnhglaaGreatG8
import Derived.Test.YtfencmicmnhglaaGreatG9
import Derived.Test.YtfencmicmnhglaaGreatG10
import Derived.Test.YtfencmicmnhglaaGreatG11
import Derived.Test.YtfencmicmnhglaaGreatG12
namespace Go.Proofs.YtfencmicmnhglaaGreat.Ev
open Go An
set_option maxRecDepth 100000
set_option maxHeartbeats 4000000
set_option linter.unusedVariables false
set_option linter.unusedSimpArgs false
set_option linter.unnecessarySimpa false
theorem aC:(∀i:Nat,(0≤(i:Int))=True)∧(∀i:Nat,Int.toNat (i:Int)=i)∧(∀ {α :Type} (a b: α),cond true a b=a)∧(∀ {α :Type} (a b: α),cond false a b=b)∧(∀ {α :Type} (a b: α),(if True then a else b)=a)∧(∀h:Decidable True,@decide True h=true)∧(∀x:Ab,Ab.mk x.Op x.Name x.N x.Kids=x)∧(∀x:Ab,Ab.cp x=x)∧(∀x:Ac,Ac.mk x.Op x.Name x.Of x.E x.F x.Args x.Dist x.Flag x.Body x.Else=x)∧(∀x:Ac,Ac.cp x=x):=⟨nn,toN,fun _ _=>rfl,fun _ _=>rfl,fun _ _=>if_true ..,decide_true,Ab.eta,Ab.cp_eq,Ac.eta,Ac.cp_eq⟩
def Nd(L:Nat)(a0:List Af):List Af→Nat→Bool→Option (Nat×Bool×Int)
 | [],i,Ao=>(some (1,(Ao,(i:Int))))
 |x::k,i,Ao=>(bif (decide (((x.Levels).length:Int) > 300)) then (some (0,(false,(i:Int))))
 else (Nd L a0 k (i+1) Ao))
theorem Arq(L:Nat)(a0:List Af)(n:Nat)(hl:a0.length≤maxLen)(hn:a0.length < n):∀(Ao:Bool),Na L a0 n Ao 0=Nd L a0 a0 0 Ao:=lQ (fun k i n=>∀(Ao:Bool),Na L a0 n Ao (i:Int)=Nd L a0 k i Ao) hl hn (fun n i h Ao=>by simp only [Na,Yv,Nd,Hd h,aN,aB,aC]) (fun n i x k h hx ih Ao=>by simp only [Na,Yv,Nd,He h,Ru h,hx,Bh h hl,ih,aN,aB,aC])
def Nf(Ik:Ab→Option Int)(L:Nat)(a0:Ab):List Ab→Nat→Int→Option (Nat×Int×Int)
 | [],i,Ao=>(some (0,(Ao,(i:Int))))
 |x::k,i,Ao=>(Option.bind (Ik x) fun r1=>
 (Nf Ik L a0 k (i+1) (Dp (Ao+r1))))
theorem Arr(Ik:Ab→Option Int)(L:Nat)(a0:Ab)(n:Nat)(hl:a0.Kids.length≤maxLen)(hn:a0.Kids.length < n):∀(Ao:Int),Nb Ik L a0 n Ao 0=Nf Ik L a0 a0.Kids 0 Ao:=lQ (fun k i n=>∀(Ao:Int),Nb Ik L a0 n Ao (i:Int)=Nf Ik L a0 k i Ao) hl hn (fun n i h Ao=>by simp only [Nb,Yw,Nf,Hd h,aN,aB,aC]) (fun n i x k h hx ih Ao=>by simp only [Nb,Yw,Nf,He h,Ru h,hx,Bh h hl,ih,aN,aB,aC])
def P2(Cx:(List Ac)→Option Int)(L:Nat)(a0:List Ac)(Al:Int):List Ab→Nat→Int→Option (Nat×Int×Int)
 | [],i,S2=>(some (0,(S2,(i:Int))))
 |x::k,i,S2=>(Option.bind (Gi L x) fun r5=>
 (P2 Cx L a0 Al k (i+1) (Dp (S2+r5))))
theorem At5(Cx:(List Ac)→Option Int)(L:Nat)(a0:List Ac)(Al:Int)(n:Nat)(hl:((a0.getD (Int.toNat Al) default).Args).length≤maxLen)(hn:((a0.getD (Int.toNat Al) default).Args).length < n):∀(S2:Int),Ms Cx L a0 Al n S2 0=P2 Cx L a0 Al ((a0.getD (Int.toNat Al) default).Args) 0 S2:=lQ (fun k i n=>∀(S2:Int),Ms Cx L a0 Al n S2 (i:Int)=P2 Cx L a0 Al k i S2) hl hn (fun n i h S2=>by simp only [Ms,v7,P2,Hd h,aN,aB,aC]) (fun n i x k h hx ih S2=>by simp only [Ms,v7,P2,He h,Ru h,hx,Bh h hl,ih,aN,aB,aC])
def P1(Cx:(List Ac)→Option Int)(L:Nat)(a0:List Ac):List Ac→Nat→Int→Option (Nat×Int×Int)
 | [],i,Bc=>(some (0,(Bc,(i:Int))))
 |x::k,i,Bc=>(Option.bind (Gi L (x.E)) fun r1=>
 (Option.bind (Gi L (x.F)) fun r2=>
 (Option.bind (Cx (x.Body)) fun r3=>
 (Option.bind (Cx (x.Else)) fun r4=>
 (Option.bind (Ms Cx L a0 (i:Int) L (Dp ((Dp ((Dp ((Dp ((Dp ((Dp ((Dp (Bc+1))+r1))+r2))+(((x.Dist).Values).length:Int)))+(((x.Dist).Weights).length:Int)))+r3))+r4)) 0) fun o6=>
 (Asb o6.1 [(P1 Cx L a0 k (i+1) o6.2.1)]))))))
theorem At4(Cx:(List Ac)→Option Int)(L:Nat)(a0:List Ac)(n:Nat)(hl:a0.length≤maxLen)(hn:a0.length < n):∀(Bc:Int),Mr Cx L a0 n Bc 0=P1 Cx L a0 a0 0 Bc:=lQ (fun k i n=>∀(Bc:Int),Mr Cx L a0 n Bc (i:Int)=P1 Cx L a0 k i Bc) hl hn (fun n i h Bc=>by simp only [Mr,Ady,w4,Wf,P1,Hd h,aN,aB,aC]) (fun n i x k h hx ih Bc=>by simp only [Mr,Ady,w4,Wf,P1,He h,Ru h,hx,Bh h hl,ih,aN,aB,aC])
def P0(L:Nat)(a0:Ad):List Aa→Nat→Int→Option (Nat×Int×Int)
 | [],i,Ao=>(some (0,(Ao,(i:Int))))
 |x::k,i,Ao=>(Option.bind (Mq L (i:Int) a0 L Ao 0) fun o2=>
 (Asb o2.1 [(P0 L a0 k (i+1) o2.2.1)]))
theorem At3(L:Nat)(a0:Ad)(n:Nat)(hl:a0.Sites.length≤maxLen)(hn:a0.Sites.length < n):∀(Ao:Int),Mp L a0 n Ao 0=P0 L a0 a0.Sites 0 Ao:=lQ (fun k i n=>∀(Ao:Int),Mp L a0 n Ao (i:Int)=P0 L a0 k i Ao) hl hn (fun n i h Ao=>by simp only [Mp,Adx,w3,Wd,P0,Hd h,aN,aB,aC]) (fun n i x k h hx ih Ao=>by simp only [Mp,Adx,w3,Wd,P0,He h,Ru h,hx,Bh h hl,ih,aN,aB,aC])
def D0(L:Nat)(a0:Ai):List Cy→Nat→Int→Option (Nat×Int×Int)
 | [],i,Au=>(some (1,(Au,(i:Int))))
 |x::k,i,Au=>(Option.bind (Bb L (x.At) 0 (Dp (a0.Cycle - 1))) fun r2=>
 (bif (!r2) then (bif (!r2) then (some (0,(2,(i:Int))))
 else (bif (decide ((i:Int) > 0)) then (if (0≤(Dp ((i:Int) - 1))) then (if ((Dp ((i:Int) - 1)) < (a0.Shift.length:Int)) then (bif (decide (x.At≤(a0.Shift.getD (Int.toNat (Dp ((i:Int) - 1))) default).At)) then (some (0,(12,(i:Int))))
 else (D0 L a0 k (i+1) Au)) else none) else none)
 else (D0 L a0 k (i+1) Au)))
 else (Option.bind (Bb L (x.Units) 0 1000) fun r3=>
 (bif (!r3) then (some (0,(2,(i:Int))))
 else (bif (decide ((i:Int) > 0)) then (if (0≤(Dp ((i:Int) - 1))) then (if ((Dp ((i:Int) - 1)) < (a0.Shift.length:Int)) then (bif (decide (x.At≤(a0.Shift.getD (Int.toNat (Dp ((i:Int) - 1))) default).At)) then (some (0,(12,(i:Int))))
 else (D0 L a0 k (i+1) Au)) else none) else none)
 else (D0 L a0 k (i+1) Au))))))
theorem Aiv(L:Nat)(a0:Ai)(n:Nat)(hl:a0.Shift.length≤maxLen)(hn:a0.Shift.length < n):∀(Au:Int),Gz L a0 n Au 0=D0 L a0 a0.Shift 0 Au:=lQ (fun k i n=>∀(Au:Int),Gz L a0 n Au (i:Int)=D0 L a0 k i Au) hl hn (fun n i h Au=>by simp only [Gz,P8,D0,Hd h,aN,aB,aC]) (fun n i x k h hx ih Au=>by simp only [Gz,P8,D0,He h,Ru h,hx,Bh h hl,ih,aN,aB,aC])
def F7(L:Nat)(a0:List Int)(a1:List Int):List Int→Nat→Bool→Option (Nat×Bool×Int)
 | [],i,Bc=>(some (1,(Bc,(i:Int))))
 |x::k,i,Bc=>(if ((i:Int) < (a1.length:Int)) then (bif (x != (a1.getD (Int.toNat (i:Int)) default)) then (some (0,(false,(i:Int))))
 else (F7 L a0 a1 k (i+1) Bc)) else none)
theorem Agi(L:Nat)(a0:List Int)(a1:List Int)(n:Nat)(hl:a0.length≤maxLen)(hn:a0.length < n):∀(Bc:Bool),F5 L a0 a1 n Bc 0=F7 L a0 a1 a0 0 Bc:=lQ (fun k i n=>∀(Bc:Bool),F5 L a0 a1 n Bc (i:Int)=F7 L a0 a1 k i Bc) hl hn (fun n i h Bc=>by simp only [F5,Np,F7,Hd h,aN,aB,aC]) (fun n i x k h hx ih Bc=>by simp only [F5,Np,F7,He h,Ru h,hx,Bh h hl,ih,aN,aB,aC])
def Ee(L:Nat)(a0:List ByteArray)(a1:ByteArray):List ByteArray→Nat→Int→Option (Nat×Int×Int)
 | [],i,Bc=>(some (1,(Bc,(i:Int))))
 |x::k,i,Bc=>(bif (a1.toList == x.toList) then (some (0,((i:Int),(i:Int))))
 else (Ee L a0 a1 k (i+1) Bc))
theorem Acs(L:Nat)(a0:List ByteArray)(a1:ByteArray)(n:Nat)(hl:a0.length≤maxLen)(hn:a0.length < n):∀(Bc:Int),Ea L a0 a1 n Bc 0=Ee L a0 a1 a0 0 Bc:=lQ (fun k i n=>∀(Bc:Int),Ea L a0 a1 n Bc (i:Int)=Ee L a0 a1 k i Bc) hl hn (fun n i h Bc=>by simp only [Ea,Kl,Ee,Hd h,aN,aB,aC]) (fun n i x k h hx ih Bc=>by simp only [Ea,Kl,Ee,He h,Ru h,hx,Bh h hl,ih,aN,aB,aC])
def Ka(L:Nat)(p1_0:List Int)(p1_1:Int)(p1_2:Int):List Int→Nat→Int→Option (Nat×Int×Int)
 | [],i,Ao=>(some (1,(Ao,(i:Int))))
 |x::k,i,Ao=>((fun b1=>
 (bif b1 then (some (0,((i:Int),(i:Int))))
 else (Ka L p1_0 p1_1 p1_2 k (i+1) Ao))) (bif (decide (x < p1_1)) then true
 else (decide (x > p1_2))))
theorem Ane(L:Nat)(p1_0:List Int)(p1_1:Int)(p1_2:Int)(n:Nat)(hl:p1_0.length≤maxLen)(hn:p1_0.length < n):∀(Ao:Int),Jz L p1_0 p1_1 p1_2 n Ao 0=Ka L p1_0 p1_1 p1_2 p1_0 0 Ao:=lQ (fun k i n=>∀(Ao:Int),Jz L p1_0 p1_1 p1_2 n Ao (i:Int)=Ka L p1_0 p1_1 p1_2 k i Ao) hl hn (fun n i h Ao=>by simp only [Jz,Un,Ka,Hd h,aN,aB,aC]) (fun n i x k h hx ih Ao=>by simp only [Jz,Un,Ka,He h,Ru h,hx,Bh h hl,ih,aN,aB,aC])
def D7(L:Nat)(a0:List (List Ap)):List ((List Ap))→Nat→Int→Option (Nat×Int×Int)
 | [],i,Bc=>(some (0,(Bc,(i:Int))))
 |x::k,i,Bc=>(bif (decide ((Dp (Bc+(x.length:Int))) < 0)) then none
 else (D7 L a0 k (i+1) (Dp (Bc+(x.length:Int)))))
theorem y9(L:Nat)(a0:List (List Ap))(n:Nat)(hl:a0.length≤maxLen)(hn:a0.length < n):∀(Bc:Int),C7 L a0 n Bc 0=D7 L a0 a0 0 Bc:=lQ (fun k i n=>∀(Bc:Int),C7 L a0 n Bc (i:Int)=D7 L a0 k i Bc) hl hn (fun n i h Bc=>by simp only [C7,Hn,D7,Hd h,aN,aB,aC]) (fun n i x k h hx ih Bc=>by simp only [C7,Hn,D7,He h,Ru h,hx,Bh h hl,ih,aN,aB,aC])
def D8(L:Nat)(a0:List (List Ap)):List ((List Ap))→Nat→List Ap→Option (Nat×List Ap×Int)
 | [],i,Dz=>(some (0,(Dz,(i:Int))))
 |x::k,i,Dz=>(if ((Dz.length+x.length)*24≤140737488355328) then (if (Dz.length+x.length≤maxLen) then (D8 L a0 k (i+1) (Dz++x)) else none) else none)
theorem Aaa(L:Nat)(a0:List (List Ap))(n:Nat)(hl:a0.length≤maxLen)(hn:a0.length < n):∀(Dz:List Ap),C8 L a0 n Dz 0=D8 L a0 a0 0 Dz:=lQ (fun k i n=>∀(Dz:List Ap),C8 L a0 n Dz (i:Int)=D8 L a0 k i Dz) hl hn (fun n i h Dz=>by simp only [C8,Hp,D8,Hd h,aN,aB,aC]) (fun n i x k h hx ih Dz=>by simp only [C8,Hp,D8,He h,Ru h,hx,Bh h hl,ih,aN,aB,aC])
def Jf(Ej:(List Ac)→Option Int)(L:Nat)(a0:List Ac):List Ac→Nat→Int→Option (Nat×Int×Int)
 | [],i,Ao=>(some (0,(Ao,(i:Int))))
 |x::k,i,Ao=>(Option.bind (Ej (x.Body)) fun r1=>
 (Option.bind (Ej (x.Else)) fun r2=>
 (Jf Ej L a0 k (i+1) (Dp (Ao+(Dp (r1+r2)))))))
theorem Apk(Ej:(List Ac)→Option Int)(L:Nat)(a0:List Ac)(n:Nat)(hl:a0.length≤maxLen)(hn:a0.length < n):∀(Ao:Int),Li Ej L a0 n Ao 0=Jf Ej L a0 a0 0 Ao:=lQ (fun k i n=>∀(Ao:Int),Li Ej L a0 n Ao (i:Int)=Jf Ej L a0 k i Ao) hl hn (fun n i h Ao=>by simp only [Li,Wy,Jf,Hd h,aN,aB,aC]) (fun n i x k h hx ih Ao=>by simp only [Li,Wy,Jf,He h,Ru h,hx,Bh h hl,ih,aN,aB,aC])
def Jg(Ek:(List Ac)→Option Int)(L:Nat)(a0:List Ac):List Ac→Nat→Int→Option (Nat×Int×Int)
 | [],i,Ao=>(some (0,(Ao,(i:Int))))
 |x::k,i,Ao=>(Option.bind (Ek (x.Body)) fun r1=>
 (Option.bind (Ek (x.Else)) fun r2=>
 (Jg Ek L a0 k (i+1) (if (Dp (1+r2)) > (if (Dp (1+r1)) > Ao then (Dp (1+r1)) else Ao) then (Dp (1+r2)) else (if (Dp (1+r1)) > Ao then (Dp (1+r1)) else Ao)))))
theorem Apl(Ek:(List Ac)→Option Int)(L:Nat)(a0:List Ac)(n:Nat)(hl:a0.length≤maxLen)(hn:a0.length < n):∀(Ao:Int),Lj Ek L a0 n Ao 0=Jg Ek L a0 a0 0 Ao:=lQ (fun k i n=>∀(Ao:Int),Lj Ek L a0 n Ao (i:Int)=Jg Ek L a0 k i Ao) hl hn (fun n i h Ao=>by simp only [Lj,Wz,Jg,Hd h,aN,aB,aC]) (fun n i x k h hx ih Ao=>by simp only [Lj,Wz,Jg,He h,Ru h,hx,Bh h hl,ih,aN,aB,aC])
def Qk(Eh:Ab→Ab→Option Bool)(L:Nat)(a0:Ab)(a1:Ab):List Ab→Nat→Bool→Option (Nat×Bool×Int)
 | [],i,Au=>(some (1,(Au,(i:Int))))
 |x::k,i,Au=>(if ((i:Int) < (a1.Kids.length:Int)) then (Option.bind (Eh x (a1.Kids.getD (Int.toNat (i:Int)) default)) fun r4=>
 (bif (!r4) then (some (0,(false,(i:Int))))
 else (Qk Eh L a0 a1 k (i+1) Au))) else none)
theorem Ars(Eh:Ab→Ab→Option Bool)(L:Nat)(a0:Ab)(a1:Ab)(n:Nat)(hl:a0.Kids.length≤maxLen)(hn:a0.Kids.length < n):∀(Au:Bool),Nc Eh L a0 a1 n Au 0=Qk Eh L a0 a1 a0.Kids 0 Au:=lQ (fun k i n=>∀(Au:Bool),Nc Eh L a0 a1 n Au (i:Int)=Qk Eh L a0 a1 k i Au) hl hn (fun n i h Au=>by simp only [Nc,Yy,Qk,Hd h,aN,aB,aC]) (fun n i x k h hx ih Au=>by simp only [Nc,Yy,Qk,He h,Ru h,hx,Bh h hl,ih,aN,aB,aC])
def Lr(Eu:Ab→Option Int)(L:Nat)(a0:Ab):List Ab→Nat→Int→Option (Nat×Int×Int)
 | [],i,Ao=>(some (0,(Ao,(i:Int))))
 |x::k,i,Ao=>(Option.bind (Eu x) fun r1=>
 (Lr Eu L a0 k (i+1) (Dp (Ao+r1))))
theorem Ao7(Eu:Ab→Option Int)(L:Nat)(a0:Ab)(n:Nat)(hl:a0.Kids.length≤maxLen)(hn:a0.Kids.length < n):∀(Ao:Int),Lb Eu L a0 n Ao 0=Lr Eu L a0 a0.Kids 0 Ao:=lQ (fun k i n=>∀(Ao:Int),Lb Eu L a0 n Ao (i:Int)=Lr Eu L a0 k i Ao) hl hn (fun n i h Ao=>by simp only [Lb,Ws,Lr,Hd h,aN,aB,aC]) (fun n i x k h hx ih Ao=>by simp only [Lb,Ws,Lr,He h,Ru h,hx,Bh h hl,ih,aN,aB,aC])
def Lq(Ew:Ab→Option Int)(L:Nat)(a0:Ab):List Ab→Nat→Int→Option (Nat×Int×Int)
 | [],i,Ao=>(some (0,(Ao,(i:Int))))
 |x::k,i,Ao=>(Option.bind (Ew x) fun r1=>
 (Lq Ew L a0 k (i+1) (if r1 > Ao then r1 else Ao)))
theorem Ao6(Ew:Ab→Option Int)(L:Nat)(a0:Ab)(n:Nat)(hl:a0.Kids.length≤maxLen)(hn:a0.Kids.length < n):∀(Ao:Int),La Ew L a0 n Ao 0=Lq Ew L a0 a0.Kids 0 Ao:=lQ (fun k i n=>∀(Ao:Int),La Ew L a0 n Ao (i:Int)=Lq Ew L a0 k i Ao) hl hn (fun n i h Ao=>by simp only [La,Wr,Lq,Hd h,aN,aB,aC]) (fun n i x k h hx ih Ao=>by simp only [La,Wr,Lq,He h,Ru h,hx,Bh h hl,ih,aN,aB,aC])
def Ez(Ei:Bp→Ab→Option Int)(L:Nat)(a1:Ab)(a0:Bp):List Ab→Nat→Int→Option (Nat×Int×Int)
 | [],i,Au=>(some (1,(Au,(i:Int))))
 |x::k,i,Au=>(Option.bind (Ei a0 x) fun r2=>
 (bif (r2 != 0) then (some (0,(r2,(i:Int))))
 else (Ez Ei L a1 a0 k (i+1) Au)))
theorem Ahl(Ei:Bp→Ab→Option Int)(L:Nat)(a1:Ab)(a0:Bp)(n:Nat)(hl:a1.Kids.length≤maxLen)(hn:a1.Kids.length < n):∀(Au:Int),Gn Ei L a1 a0 n Au 0=Ez Ei L a1 a0 a1.Kids 0 Au:=lQ (fun k i n=>∀(Au:Int),Gn Ei L a1 a0 n Au (i:Int)=Ez Ei L a1 a0 k i Au) hl hn (fun n i h Au=>by simp only [Gn,Oy,Ez,Hd h,aN,aB,aC]) (fun n i x k h hx ih Au=>by simp only [Gn,Oy,Ez,He h,Ru h,hx,Bh h hl,ih,aN,aB,aC])
def Jh(L:Nat)(a0:Ac)(a1:Bm):List Ab→Nat→Int→Option (Nat×Int×Int)
 | [],i,Kq=>(some (1,(Kq,(i:Int))))
 |x::k,i,Kq=>(Option.bind (Oj L x) fun r6=>
 (bif (r6 != 0) then (some (0,(r6,(i:Int))))
 else (Jh L a0 a1 k (i+1) Kq)))
theorem Apn(L:Nat)(a0:Ac)(a1:Bm)(n:Nat)(hl:a0.Args.length≤maxLen)(hn:a0.Args.length < n):∀(Kq:Int),Ln L a0 a1 n Kq 0=Jh L a0 a1 a0.Args 0 Kq:=lQ (fun k i n=>∀(Kq:Int),Ln L a0 a1 n Kq (i:Int)=Jh L a0 a1 k i Kq) hl hn (fun n i h Kq=>by simp only [Ln,W1,Jh,Hd h,aN,aB,aC]) (fun n i x k h hx ih Kq=>by simp only [Ln,W1,Jh,He h,Ru h,hx,Bh h hl,ih,aN,aB,aC])
def Lv(El:(List Ac)→Option Int)(L:Nat)(a0:List Ac):List Ac→Nat→Int→Option (Nat×Int×Int)
 | [],i,Au=>(some (1,(Au,(i:Int))))
 |x::k,i,Au=>(Option.bind (w6 L (x.Op)) fun r1=>
 (Option.bind (bif (!r1.2) then (some true)
 else (Option.bind (w5 L x r1.1) fun r3=>
 (some (!r3)))) fun b2=>
 (bif b2 then (some (0,(1,(i:Int))))
 else (Option.bind (X2 L x r1.1) fun r4=>
 (bif (r4 != 0) then (some (0,(r4,(i:Int))))
 else (Option.bind (El (x.Body)) fun r5=>
 (bif (r5 != 0) then (some (0,(r5,(i:Int))))
 else (Option.bind (El (x.Else)) fun r6=>
 (bif (r6 != 0) then (some (0,(r6,(i:Int))))
 else (Lv El L a0 k (i+1) Au))))))))))
theorem Apm(El:(List Ac)→Option Int)(L:Nat)(a0:List Ac)(n:Nat)(hl:a0.length≤maxLen)(hn:a0.length < n):∀(Au:Int),Lk El L a0 n Au 0=Lv El L a0 a0 0 Au:=lQ (fun k i n=>∀(Au:Int),Lk El L a0 n Au (i:Int)=Lv El L a0 k i Au) hl hn (fun n i h Au=>by simp only [Lk,W0,Lv,Hd h,aN,aB,aC]) (fun n i x k h hx ih Au=>by simp only [Lk,W0,Lv,He h,Ru h,hx,Bh h hl,ih,aN,aB,aC])
def Ed(L:Nat)(r2:List Ap)(a0:Ak):List Ap→Nat→Int→List ByteArray→List Bool→Option (Nat×Int×Int×List ByteArray×List Bool)
 | [],i,Au,Dm,Dn=>(some (1,(Au,(i:Int),Dm,Dn)))
 |x::k,i,Au,Dm,Dn=>(Option.bind (Jw L (x.Name) a0 x Dm Dn) fun o7=>
 (bif (o7.1 != 0) then (some (0,(o7.1,(i:Int),o7.2.1,o7.2.2)))
 else (Option.bind (Kj L (x.Type_)) fun r8=>
 (bif (!r8) then (some (0,(1,(i:Int),o7.2.1,o7.2.2)))
 else (Ed L r2 a0 k (i+1) Au o7.2.1 o7.2.2)))))
theorem Aj1(L:Nat)(r2:List Ap)(a0:Ak)(n:Nat)(hl:r2.length≤maxLen)(hn:r2.length < n):∀(Au:Int) (Dm:List ByteArray) (Dn:List Bool),Gp L r2 a0 n Au 0 Dm Dn=Ed L r2 a0 r2 0 Au Dm Dn:=lQ (fun k i n=>∀(Au:Int) (Dm:List ByteArray) (Dn:List Bool),Gp L r2 a0 n Au (i:Int) Dm Dn=Ed L r2 a0 k i Au Dm Dn) hl hn (fun n i h Au Dm Dn=>by simp only [Gp,Xg,R4,Nj,Ed,Hd h,aN,aB,aC]) (fun n i x k h hx ih Au Dm Dn=>by simp only [Gp,Xg,R4,Nj,Ed,He h,Ru h,hx,Bh h hl,ih,aN,aB,aC])
def H3(L:Nat)(p1_0:List Ak)(p1_1:Aa)(p1_2:ByteArray):List Ak→Nat→Int→Option (Nat×Int×Int)
 | [],i,Ao=>(some (1,(Ao,(i:Int))))
 |x::k,i,Ao=>(bif ((x.Name).toList == p1_2.toList) then (some (0,((i:Int),(i:Int))))
 else (H3 L p1_0 p1_1 p1_2 k (i+1) Ao))
theorem Aj0(L:Nat)(p1_0:List Ak)(p1_1:Aa)(p1_2:ByteArray)(n:Nat)(hl:p1_0.length≤maxLen)(hn:p1_0.length < n):∀(Ao:Int),H0 L p1_0 p1_1 p1_2 n Ao 0=H3 L p1_0 p1_1 p1_2 p1_0 0 Ao:=lQ (fun k i n=>∀(Ao:Int),H0 L p1_0 p1_1 p1_2 n Ao (i:Int)=H3 L p1_0 p1_1 p1_2 k i Ao) hl hn (fun n i h Ao=>by simp only [H0,Rt,H3,Hd h,aN,aB,aC]) (fun n i x k h hx ih Ao=>by simp only [H0,Rt,H3,He h,Ru h,hx,Bh h hl,ih,aN,aB,aC])
def Ib(L:Nat)(a0:Aa)(r1:Int)(a1:Bo):List Int→Nat→Int→Option (Nat×Int×Int)
 | [],i,Au=>(some (1,(Au,(i:Int))))
 |x::k,i,Au=>(if ((i:Int) < ((((a0.Routines.getD (Int.toNat r1) default).Params).length:Nat):Int)) then (Option.bind (Rm L ((((a0.Routines.getD (Int.toNat r1) default).Params).getD (Int.toNat (i:Int)) default).Type_) x) fun r2=>
 (bif (!r2) then (some (0,(2,(i:Int))))
 else (Ib L a0 r1 a1 k (i+1) Au))) else none)
theorem Anm(L:Nat)(a0:Aa)(r1:Int)(a1:Bo)(n:Nat)(hl:a1.Args.length≤maxLen)(hn:a1.Args.length < n):∀(Au:Int),J4 L a0 r1 a1 n Au 0=Ib L a0 r1 a1 a1.Args 0 Au:=lQ (fun k i n=>∀(Au:Int),J4 L a0 r1 a1 n Au (i:Int)=Ib L a0 r1 a1 k i Au) hl hn (fun n i h Au=>by simp only [J4,Ut,Ib,Hd h,aN,aB,aC]) (fun n i x k h hx ih Au=>by simp only [J4,Ut,Ib,He h,Ru h,hx,Bh h hl,ih,aN,aB,aC])
def Lu(L:Nat)(p1_0:List Am)(p1_1:Aa)(p1_2:Aw):List Am→Nat→Int→Option (Nat×Int×Int)
 | [],i,Ao=>(some (1,(Ao,(i:Int))))
 |x::k,i,Ao=>(bif ((x.Name).toList == p1_2.Name.toList) then (some (0,((i:Int),(i:Int))))
 else (Lu L p1_0 p1_1 p1_2 k (i+1) Ao))
theorem Apj(L:Nat)(p1_0:List Am)(p1_1:Aa)(p1_2:Aw)(n:Nat)(hl:p1_0.length≤maxLen)(hn:p1_0.length < n):∀(Ao:Int),Lh L p1_0 p1_1 p1_2 n Ao 0=Lu L p1_0 p1_1 p1_2 p1_0 0 Ao:=lQ (fun k i n=>∀(Ao:Int),Lh L p1_0 p1_1 p1_2 n Ao (i:Int)=Lu L p1_0 p1_1 p1_2 k i Ao) hl hn (fun n i h Ao=>by simp only [Lh,Wx,Lu,Hd h,aN,aB,aC]) (fun n i x k h hx ih Ao=>by simp only [Lh,Wx,Lu,He h,Ru h,hx,Bh h hl,ih,aN,aB,aC])
def N7(L:Nat)(p11_0:List Aw)(p11_1:Aa)(p11_2:List ByteArray)(p11_3:List Bool)(p11_4:A9)(p11_5:A9):List Aw→Nat→Int→Option (Nat×Int×Int)
 | [],i,Cv=>(some (1,(Cv,(i:Int))))
 |x::k,i,Cv=>(Option.bind (Ug L p11_1 x) fun r6=>
 (bif (r6 != 0) then (some (0,(r6,(i:Int))))
 else (N7 L p11_0 p11_1 p11_2 p11_3 p11_4 p11_5 k (i+1) Cv)))
theorem Apb(L:Nat)(p11_0:List Aw)(p11_1:Aa)(p11_2:List ByteArray)(p11_3:List Bool)(p11_4:A9)(p11_5:A9)(n:Nat)(hl:p11_0.length≤maxLen)(hn:p11_0.length < n):∀(Cv:Int),Lf L p11_0 p11_1 p11_2 p11_3 p11_4 p11_5 n Cv 0=N7 L p11_0 p11_1 p11_2 p11_3 p11_4 p11_5 p11_0 0 Cv:=lQ (fun k i n=>∀(Cv:Int),Lf L p11_0 p11_1 p11_2 p11_3 p11_4 p11_5 n Cv (i:Int)=N7 L p11_0 p11_1 p11_2 p11_3 p11_4 p11_5 k i Cv) hl hn (fun n i h Cv=>by simp only [Lf,Wv,N7,Hd h,aN,aB,aC]) (fun n i x k h hx ih Cv=>by simp only [Lf,Wv,N7,He h,Ru h,hx,Bh h hl,ih,aN,aB,aC])
def N6(L:Nat)(p1_0:List A9)(p1_1:Aa):List A9→Nat→Int→List ByteArray→List Bool→Option (Nat×Int×Int×List ByteArray×List Bool)
 | [],i,Au,Dg,Dj=>(some (1,(Au,(i:Int),Dg,Dj)))
 |x::k,i,Au,Dg,Dj=>(Option.bind (N5 L x p1_1 Dg Dj x) fun o10=>
 (bif (o10.1 != 0) then (some (0,(o10.1,(i:Int),o10.2.1,o10.2.2)))
 else (N6 L p1_0 p1_1 k (i+1) Au o10.2.1 o10.2.2)))
theorem Apa(L:Nat)(p1_0:List A9)(p1_1:Aa)(n:Nat)(hl:p1_0.length≤maxLen)(hn:p1_0.length < n):∀(Au:Int) (Dg:List ByteArray) (Dj:List Bool),I8 L p1_0 p1_1 n Au 0 Dg Dj=N6 L p1_0 p1_1 p1_0 0 Au Dg Dj:=lQ (fun k i n=>∀(Au:Int) (Dg:List ByteArray) (Dj:List Bool),I8 L p1_0 p1_1 n Au (i:Int) Dg Dj=N6 L p1_0 p1_1 k i Au Dg Dj) hl hn (fun n i h Au Dg Dj=>by simp only [I8,Aau,Vl,Qt,N6,Hd h,aN,aB,aC]) (fun n i x k h hx ih Au Dg Dj=>by simp only [I8,Aau,Vl,Qt,N6,He h,Ru h,hx,Bh h hl,ih,aN,aB,aC])
def N8(L:Nat)(p41_0:List Ah)(p41_1:Aa):List Ah→Nat→Int→List ByteArray→List Bool→Option (Nat×Int×Int×List ByteArray×List Bool)
 | [],i,Au,Dg,Dj=>(some (1,(Au,(i:Int),Dg,Dj)))
 |x::k,i,Au,Dg,Dj=>(Option.bind (Mu L x p41_1 Dg Dj x) fun o8=>
 (bif (o8.1 != 0) then (some (0,(o8.1,(i:Int),o8.2.1,o8.2.2)))
 else (N8 L p41_0 p41_1 k (i+1) Au o8.2.1 o8.2.2)))
theorem Apc(L:Nat)(p41_0:List Ah)(p41_1:Aa)(n:Nat)(hl:p41_0.length≤maxLen)(hn:p41_0.length < n):∀(Au:Int) (Dg:List ByteArray) (Dj:List Bool),I9 L p41_0 p41_1 n Au 0 Dg Dj=N8 L p41_0 p41_1 p41_0 0 Au Dg Dj:=lQ (fun k i n=>∀(Au:Int) (Dg:List ByteArray) (Dj:List Bool),I9 L p41_0 p41_1 n Au (i:Int) Dg Dj=N8 L p41_0 p41_1 k i Au Dg Dj) hl hn (fun n i h Au Dg Dj=>by simp only [I9,Aav,Vp,Qx,N8,Hd h,aN,aB,aC]) (fun n i x k h hx ih Au Dg Dj=>by simp only [I9,Aav,Vp,Qx,N8,He h,Ru h,hx,Bh h hl,ih,aN,aB,aC])
def N9(L:Nat)(p48_0:List Ai)(p48_1:Aa):List Ai→Nat→Int→List ByteArray→List Bool→Option (Nat×Int×Int×List ByteArray×List Bool)
 | [],i,Cv,L4,L5=>(some (1,(Cv,(i:Int),L4,L5)))
 |x::k,i,Cv,L4,L5=>(Option.bind (Mv L x p48_1 L4 L5 x) fun o19=>
 (bif (o19.1 != 0) then (some (0,(o19.1,(i:Int),o19.2.1,o19.2.2)))
 else (N9 L p48_0 p48_1 k (i+1) Cv o19.2.1 o19.2.2)))
theorem Apd(L:Nat)(p48_0:List Ai)(p48_1:Aa)(n:Nat)(hl:p48_0.length≤maxLen)(hn:p48_0.length < n):∀(Cv:Int) (L4:List ByteArray) (L5:List Bool),Ja L p48_0 p48_1 n Cv 0 L4 L5=N9 L p48_0 p48_1 p48_0 0 Cv L4 L5:=lQ (fun k i n=>∀(Cv:Int) (L4:List ByteArray) (L5:List Bool),Ja L p48_0 p48_1 n Cv (i:Int) L4 L5=N9 L p48_0 p48_1 k i Cv L4 L5) hl hn (fun n i h Cv L4 L5=>by simp only [Ja,Aaw,Vq,Qy,N9,Hd h,aN,aB,aC]) (fun n i x k h hx ih Cv L4 L5=>by simp only [Ja,Aaw,Vq,Qy,N9,He h,Ru h,hx,Bh h hl,ih,aN,aB,aC])
def Oa(L:Nat)(p55_0:List Am)(p55_1:Aa):List Am→Nat→Int→List ByteArray→List Bool→Option (Nat×Int×Int×List ByteArray×List Bool)
 | [],i,Kq,L6,L7=>(some (1,(Kq,(i:Int),L6,L7)))
 |x::k,i,Kq,L6,L7=>(Option.bind (Mw L x p55_1 L6 L7 x) fun o29=>
 (bif (o29.1 != 0) then (some (0,(o29.1,(i:Int),o29.2.1,o29.2.2)))
 else (Oa L p55_0 p55_1 k (i+1) Kq o29.2.1 o29.2.2)))
theorem Ape(L:Nat)(p55_0:List Am)(p55_1:Aa)(n:Nat)(hl:p55_0.length≤maxLen)(hn:p55_0.length < n):∀(Kq:Int) (L6:List ByteArray) (L7:List Bool),Jb L p55_0 p55_1 n Kq 0 L6 L7=Oa L p55_0 p55_1 p55_0 0 Kq L6 L7:=lQ (fun k i n=>∀(Kq:Int) (L6:List ByteArray) (L7:List Bool),Jb L p55_0 p55_1 n Kq (i:Int) L6 L7=Oa L p55_0 p55_1 k i Kq L6 L7) hl hn (fun n i h Kq L6 L7=>by simp only [Jb,Aax,Vr,Qz,Oa,Hd h,aN,aB,aC]) (fun n i x k h hx ih Kq L6 L7=>by simp only [Jb,Aax,Vr,Qz,Oa,He h,Ru h,hx,Bh h hl,ih,aN,aB,aC])
def Ob(L:Nat)(p62_0:List Aq)(p62_1:Aa):List Aq→Nat→Int→List ByteArray→List Bool→Option (Nat×Int×Int×List ByteArray×List Bool)
 | [],i,T9,L8,L9=>(some (1,(T9,(i:Int),L8,L9)))
 |x::k,i,T9,L8,L9=>(Option.bind (Mx L x p62_1 L8 L9 x) fun o40=>
 (bif (o40.1 != 0) then (some (0,(o40.1,(i:Int),o40.2.1,o40.2.2)))
 else (Ob L p62_0 p62_1 k (i+1) T9 o40.2.1 o40.2.2)))
theorem Apf(L:Nat)(p62_0:List Aq)(p62_1:Aa)(n:Nat)(hl:p62_0.length≤maxLen)(hn:p62_0.length < n):∀(T9:Int) (L8:List ByteArray) (L9:List Bool),Jc L p62_0 p62_1 n T9 0 L8 L9=Ob L p62_0 p62_1 p62_0 0 T9 L8 L9:=lQ (fun k i n=>∀(T9:Int) (L8:List ByteArray) (L9:List Bool),Jc L p62_0 p62_1 n T9 (i:Int) L8 L9=Ob L p62_0 p62_1 k i T9 L8 L9) hl hn (fun n i h T9 L8 L9=>by simp only [Jc,Aay,Vs,Q0,Ob,Hd h,aN,aB,aC]) (fun n i x k h hx ih T9 L8 L9=>by simp only [Jc,Aay,Vs,Q0,Ob,He h,Ru h,hx,Bh h hl,ih,aN,aB,aC])
def Oc(L:Nat)(p69_0:List ByteArray)(p69_1:Aa):List ByteArray→Nat→Int→List ByteArray→List Bool→Option (Nat×Int×Int×List ByteArray×List Bool)
 | [],i,Ua,Ma,Mb=>(some (1,(Ua,(i:Int),Ma,Mb)))
 |x::k,i,Ua,Ma,Mb=>(Option.bind (My L x p69_1 Ma Mb) fun o47=>
 (bif (o47.1 != 0) then (some (0,(o47.1,(i:Int),o47.2.1,o47.2.2)))
 else (Oc L p69_0 p69_1 k (i+1) Ua o47.2.1 o47.2.2)))
theorem Apg(L:Nat)(p69_0:List ByteArray)(p69_1:Aa)(n:Nat)(hl:p69_0.length≤maxLen)(hn:p69_0.length < n):∀(Ua:Int) (Ma:List ByteArray) (Mb:List Bool),Jd L p69_0 p69_1 n Ua 0 Ma Mb=Oc L p69_0 p69_1 p69_0 0 Ua Ma Mb:=lQ (fun k i n=>∀(Ua:Int) (Ma:List ByteArray) (Mb:List Bool),Jd L p69_0 p69_1 n Ua (i:Int) Ma Mb=Oc L p69_0 p69_1 k i Ua Ma Mb) hl hn (fun n i h Ua Ma Mb=>by simp only [Jd,Aaz,Vt,Ra,Oc,Hd h,aN,aB,aC]) (fun n i x k h hx ih Ua Ma Mb=>by simp only [Jd,Aaz,Vt,Ra,Oc,He h,Ru h,hx,Bh h hl,ih,aN,aB,aC])
def Od(L:Nat)(p72_0:List Ak)(p72_1:Aa):List Ak→Nat→Int→List ByteArray→List Bool→Option (Nat×Int×Int×List ByteArray×List Bool)
 | [],i,Ub,Mc,Md=>(some (1,(Ub,(i:Int),Mc,Md)))
 |x::k,i,Ub,Mc,Md=>(Option.bind (Mz L x p72_1 Mc Md x) fun o60=>
 (bif (o60.1 != 0) then (some (0,(o60.1,(i:Int),o60.2.1,o60.2.2)))
 else (Od L p72_0 p72_1 k (i+1) Ub o60.2.1 o60.2.2)))
theorem Aph(L:Nat)(p72_0:List Ak)(p72_1:Aa)(n:Nat)(hl:p72_0.length≤maxLen)(hn:p72_0.length < n):∀(Ub:Int) (Mc:List ByteArray) (Md:List Bool),Je L p72_0 p72_1 n Ub 0 Mc Md=Od L p72_0 p72_1 p72_0 0 Ub Mc Md:=lQ (fun k i n=>∀(Ub:Int) (Mc:List ByteArray) (Md:List Bool),Je L p72_0 p72_1 n Ub (i:Int) Mc Md=Od L p72_0 p72_1 k i Ub Mc Md) hl hn (fun n i h Ub Mc Md=>by simp only [Je,Aa0,Tr,Ph,Od,Hd h,aN,aB,aC]) (fun n i x k h hx ih Ub Mc Md=>by simp only [Je,Aa0,Tr,Ph,Od,He h,Ru h,hx,Bh h hl,ih,aN,aB,aC])
def Oe(L:Nat)(p79_0:List Bo)(p79_1:Aa)(p79_2:List ByteArray)(p79_3:List Bool):List Bo→Nat→Int→Option (Nat×Int×Int)
 | [],i,Ahs=>(some (1,(Ahs,(i:Int))))
 |x::k,i,Ahs=>(Option.bind (Sv L p79_1 x) fun r63=>
 (bif (r63 != 0) then (some (0,(r63,(i:Int))))
 else (Oe L p79_0 p79_1 p79_2 p79_3 k (i+1) Ahs)))
theorem Api(L:Nat)(p79_0:List Bo)(p79_1:Aa)(p79_2:List ByteArray)(p79_3:List Bool)(n:Nat)(hl:p79_0.length≤maxLen)(hn:p79_0.length < n):∀(Ahs:Int),Lg L p79_0 p79_1 p79_2 p79_3 n Ahs 0=Oe L p79_0 p79_1 p79_2 p79_3 p79_0 0 Ahs:=lQ (fun k i n=>∀(Ahs:Int),Lg L p79_0 p79_1 p79_2 p79_3 n Ahs (i:Int)=Oe L p79_0 p79_1 p79_2 p79_3 k i Ahs) hl hn (fun n i h Ahs=>by simp only [Lg,Ww,Oe,Hd h,aN,aB,aC]) (fun n i x k h hx ih Ahs=>by simp only [Lg,Ww,Oe,He h,Ru h,hx,Bh h hl,ih,aN,aB,aC])
def Lt(L:Nat)(p1_0:List Aa)(p1_1:Ad)(p1_2:ByteArray):List Aa→Nat→Int→Option (Nat×Int×Int)
 | [],i,Ao=>(some (1,(Ao,(i:Int))))
 |x::k,i,Ao=>(bif ((x.Name).toList == p1_2.toList) then (some (0,((i:Int),(i:Int))))
 else (Lt L p1_0 p1_1 p1_2 k (i+1) Ao))
theorem Ao9(L:Nat)(p1_0:List Aa)(p1_1:Ad)(p1_2:ByteArray)(n:Nat)(hl:p1_0.length≤maxLen)(hn:p1_0.length < n):∀(Ao:Int),Ld L p1_0 p1_1 p1_2 n Ao 0=Lt L p1_0 p1_1 p1_2 p1_0 0 Ao:=lQ (fun k i n=>∀(Ao:Int),Ld L p1_0 p1_1 p1_2 n Ao (i:Int)=Lt L p1_0 p1_1 p1_2 k i Ao) hl hn (fun n i h Ao=>by simp only [Ld,Wu,Lt,Hd h,aN,aB,aC]) (fun n i x k h hx ih Ao=>by simp only [Ld,Wu,Lt,He h,Ru h,hx,Bh h hl,ih,aN,aB,aC])
def Ia(L:Nat)(p1_0:List Be)(p1_1:Ad):List Be→Nat→Int→List Bk→List Bool→Option (Nat×Int×Int×List Bk×List Bool)
 | [],i,Au,Dm,Dn=>(some (1,(Au,(i:Int),Dm,Dn)))
 |x::k,i,Au,Dm,Dn=>(Option.bind (Qi L x p1_1 Dm Dn x) fun o8=>
 (bif (o8.1 != 0) then (some (0,(o8.1,(i:Int),o8.2.1,o8.2.2)))
 else (Ia L p1_0 p1_1 k (i+1) Au o8.2.1 o8.2.2)))
theorem Anh(L:Nat)(p1_0:List Be)(p1_1:Ad)(n:Nat)(hl:p1_0.length≤maxLen)(hn:p1_0.length < n):∀(Au:Int) (Dm:List Bk) (Dn:List Bool),H9 L p1_0 p1_1 n Au 0 Dm Dn=Ia L p1_0 p1_1 p1_0 0 Au Dm Dn:=lQ (fun k i n=>∀(Au:Int) (Dm:List Bk) (Dn:List Bool),H9 L p1_0 p1_1 n Au (i:Int) Dm Dn=Ia L p1_0 p1_1 k i Au Dm Dn) hl hn (fun n i h Au Dm Dn=>by simp only [H9,k7,Vm,Qv,Ia,Hd h,aN,aB,aC]) (fun n i x k h hx ih Au Dm Dn=>by simp only [H9,k7,Vm,Qv,Ia,He h,Ru h,hx,Bh h hl,ih,aN,aB,aC])
def M3(L:Nat)(p1_0:List Ah)(p1_1:Ad):List Ah→Nat→Int→List ByteArray→List Bool→Option (Nat×Int×Int×List ByteArray×List Bool)
 | [],i,Au,Dm,Dn=>(some (1,(Au,(i:Int),Dm,Dn)))
 |x::k,i,Au,Dm,Dn=>(Option.bind (Mt L x p1_1 Dm Dn x) fun o9=>
 (bif (o9.1 != 0) then (some (0,(o9.1,(i:Int),o9.2.1,o9.2.2)))
 else (M3 L p1_0 p1_1 k (i+1) Au o9.2.1 o9.2.2)))
theorem Anf(L:Nat)(p1_0:List Ah)(p1_1:Ad)(n:Nat)(hl:p1_0.length≤maxLen)(hn:p1_0.length < n):∀(Au:Int) (Dm:List ByteArray) (Dn:List Bool),H7 L p1_0 p1_1 n Au 0 Dm Dn=M3 L p1_0 p1_1 p1_0 0 Au Dm Dn:=lQ (fun k i n=>∀(Au:Int) (Dm:List ByteArray) (Dn:List Bool),H7 L p1_0 p1_1 n Au (i:Int) Dm Dn=M3 L p1_0 p1_1 k i Au Dm Dn) hl hn (fun n i h Au Dm Dn=>by simp only [H7,k5,Vj,Qs,M3,Hd h,aN,aB,aC]) (fun n i x k h hx ih Au Dm Dn=>by simp only [H7,k5,Vj,Qs,M3,He h,Ru h,hx,Bh h hl,ih,aN,aB,aC])
def M4(L:Nat)(p8_0:List Aa)(p8_1:Ad)(p8_2:List ByteArray)(p8_3:List Bool):List Aa→Nat→Int→List ByteArray→List Bool→Option (Nat×Int×Int×List ByteArray×List Bool)
 | [],i,Cv,L2,L3=>(some (1,(Cv,(i:Int),L2,L3)))
 |x::k,i,Cv,L2,L3=>(Option.bind (K2 L x p8_1 p8_2 p8_3 L2 L3 x) fun o18=>
 (bif (o18.1 != 0) then (some (0,(o18.1,(i:Int),o18.2.1,o18.2.2)))
 else (M4 L p8_0 p8_1 p8_2 p8_3 k (i+1) Cv o18.2.1 o18.2.2)))
theorem Ang(L:Nat)(p8_0:List Aa)(p8_1:Ad)(p8_2:List ByteArray)(p8_3:List Bool)(n:Nat)(hl:p8_0.length≤maxLen)(hn:p8_0.length < n):∀(Cv:Int) (L2:List ByteArray) (L3:List Bool),H8 L p8_0 p8_1 p8_2 p8_3 n Cv 0 L2 L3=M4 L p8_0 p8_1 p8_2 p8_3 p8_0 0 Cv L2 L3:=lQ (fun k i n=>∀(Cv:Int) (L2:List ByteArray) (L3:List Bool),H8 L p8_0 p8_1 p8_2 p8_3 n Cv (i:Int) L2 L3=M4 L p8_0 p8_1 p8_2 p8_3 k i Cv L2 L3) hl hn (fun n i h Cv L2 L3=>by simp only [H8,k6,Tn,O4,M4,Hd h,aN,aB,aC]) (fun n i x k h hx ih Cv L2 L3=>by simp only [H8,k6,Tn,O4,M4,He h,Ru h,hx,Bh h hl,ih,aN,aB,aC])
def Kf(L:Nat)(a1:ByteArray)(a0:Bf):List Ah→Nat→Int→Bool→Option (Nat×Int×Bool×Int)
 | [],i,Ao,Bc=>(some (1,(Ao,Bc,(i:Int))))
 |x::k,i,Ao,Bc=>(bif ((x.Name).toList == a1.toList) then (some (0,((x.Type_),true,(i:Int))))
 else (Kf L a1 a0 k (i+1) Ao Bc))
theorem Ann(L:Nat)(a1:ByteArray)(a0:Bf)(n:Nat)(hl:a0.Site.Vars.length≤maxLen)(hn:a0.Site.Vars.length < n):∀(Ao:Int) (Bc:Bool),J6 L a1 a0 n Ao Bc 0=Kf L a1 a0 a0.Site.Vars 0 Ao Bc:=lQ (fun k i n=>∀(Ao:Int) (Bc:Bool),J6 L a1 a0 n Ao Bc (i:Int)=Kf L a1 a0 k i Ao Bc) hl hn (fun n i h Ao Bc=>by simp only [J6,Uu,Kf,Hd h,aN,aB,aC]) (fun n i x k h hx ih Ao Bc=>by simp only [J6,Uu,Kf,He h,Ru h,hx,Bh h hl,ih,aN,aB,aC])
def Kg(L:Nat)(a1:ByteArray)(a0:Bf):List Ah→Nat→Int→Bool→Option (Nat×Int×Bool×Int)
 | [],i,Dz,S2=>(some (1,(Dz,S2,(i:Int))))
 |x::k,i,Dz,S2=>(bif ((x.Name).toList == a1.toList) then (some (0,((x.Type_),true,(i:Int))))
 else (Kg L a1 a0 k (i+1) Dz S2))
theorem Ano(L:Nat)(a1:ByteArray)(a0:Bf)(n:Nat)(hl:a0.Params.length≤maxLen)(hn:a0.Params.length < n):∀(Dz:Int) (S2:Bool),J7 L a1 a0 n Dz S2 0=Kg L a1 a0 a0.Params 0 Dz S2:=lQ (fun k i n=>∀(Dz:Int) (S2:Bool),J7 L a1 a0 n Dz S2 (i:Int)=Kg L a1 a0 k i Dz S2) hl hn (fun n i h Dz S2=>by simp only [J7,Uv,Kg,Hd h,aN,aB,aC]) (fun n i x k h hx ih Dz S2=>by simp only [J7,Uv,Kg,He h,Ru h,hx,Bh h hl,ih,aN,aB,aC])
def Kb(L:Nat)(p1_0:List Ah)(p1_1:Aa)(p1_2:ByteArray):List Ah→Nat→Int→Option (Nat×Int×Int)
 | [],i,Ao=>(some (1,(Ao,(i:Int))))
 |x::k,i,Ao=>(bif ((x.Name).toList == p1_2.toList) then (some (0,((i:Int),(i:Int))))
 else (Kb L p1_0 p1_1 p1_2 k (i+1) Ao))
theorem Ani(L:Nat)(p1_0:List Ah)(p1_1:Aa)(p1_2:ByteArray)(n:Nat)(hl:p1_0.length≤maxLen)(hn:p1_0.length < n):∀(Ao:Int),J0 L p1_0 p1_1 p1_2 n Ao 0=Kb L p1_0 p1_1 p1_2 p1_0 0 Ao:=lQ (fun k i n=>∀(Ao:Int),J0 L p1_0 p1_1 p1_2 n Ao (i:Int)=Kb L p1_0 p1_1 p1_2 k i Ao) hl hn (fun n i h Ao=>by simp only [J0,Uo,Kb,Hd h,aN,aB,aC]) (fun n i x k h hx ih Ao=>by simp only [J0,Uo,Kb,He h,Ru h,hx,Bh h hl,ih,aN,aB,aC])
def Kc(L:Nat)(p2_0:List Ai)(p2_1:Aa)(p2_2:ByteArray):List Ai→Nat→Int→Option (Nat×Int×Int)
 | [],i,Dz=>(some (1,(Dz,(i:Int))))
 |x::k,i,Dz=>(bif ((x.Name).toList == p2_2.toList) then (some (0,((i:Int),(i:Int))))
 else (Kc L p2_0 p2_1 p2_2 k (i+1) Dz))
theorem Anj(L:Nat)(p2_0:List Ai)(p2_1:Aa)(p2_2:ByteArray)(n:Nat)(hl:p2_0.length≤maxLen)(hn:p2_0.length < n):∀(Dz:Int),J1 L p2_0 p2_1 p2_2 n Dz 0=Kc L p2_0 p2_1 p2_2 p2_0 0 Dz:=lQ (fun k i n=>∀(Dz:Int),J1 L p2_0 p2_1 p2_2 n Dz (i:Int)=Kc L p2_0 p2_1 p2_2 k i Dz) hl hn (fun n i h Dz=>by simp only [J1,Uq,Kc,Hd h,aN,aB,aC]) (fun n i x k h hx ih Dz=>by simp only [J1,Uq,Kc,He h,Ru h,hx,Bh h hl,ih,aN,aB,aC])
def Kd(L:Nat)(p3_0:List Am)(p3_1:Aa)(p3_2:ByteArray):List Am→Nat→Int→Option (Nat×Int×Int)
 | [],i,Pu=>(some (1,(Pu,(i:Int))))
 |x::k,i,Pu=>(bif ((x.Name).toList == p3_2.toList) then (some (0,((i:Int),(i:Int))))
 else (Kd L p3_0 p3_1 p3_2 k (i+1) Pu))
theorem Ank(L:Nat)(p3_0:List Am)(p3_1:Aa)(p3_2:ByteArray)(n:Nat)(hl:p3_0.length≤maxLen)(hn:p3_0.length < n):∀(Pu:Int),J2 L p3_0 p3_1 p3_2 n Pu 0=Kd L p3_0 p3_1 p3_2 p3_0 0 Pu:=lQ (fun k i n=>∀(Pu:Int),J2 L p3_0 p3_1 p3_2 n Pu (i:Int)=Kd L p3_0 p3_1 p3_2 k i Pu) hl hn (fun n i h Pu=>by simp only [J2,Ur,Kd,Hd h,aN,aB,aC]) (fun n i x k h hx ih Pu=>by simp only [J2,Ur,Kd,He h,Ru h,hx,Bh h hl,ih,aN,aB,aC])
def Ke(L:Nat)(p4_0:List Aq)(p4_1:Aa)(p4_2:ByteArray):List Aq→Nat→Int→Option (Nat×Int×Int)
 | [],i,Gr=>(some (1,(Gr,(i:Int))))
 |x::k,i,Gr=>(bif ((x.Name).toList == p4_2.toList) then (some (0,((i:Int),(i:Int))))
 else (Ke L p4_0 p4_1 p4_2 k (i+1) Gr))
theorem Anl(L:Nat)(p4_0:List Aq)(p4_1:Aa)(p4_2:ByteArray)(n:Nat)(hl:p4_0.length≤maxLen)(hn:p4_0.length < n):∀(Gr:Int),J3 L p4_0 p4_1 p4_2 n Gr 0=Ke L p4_0 p4_1 p4_2 p4_0 0 Gr:=lQ (fun k i n=>∀(Gr:Int),J3 L p4_0 p4_1 p4_2 n Gr (i:Int)=Ke L p4_0 p4_1 p4_2 k i Gr) hl hn (fun n i h Gr=>by simp only [J3,Us,Ke,Hd h,aN,aB,aC]) (fun n i x k h hx ih Gr=>by simp only [J3,Us,Ke,He h,Ru h,hx,Bh h hl,ih,aN,aB,aC])
def Ic(Et:Bf→Ab→Option (Int×Int))(L:Nat)(a1:Ab)(a0:Bf):List Ab→Nat→Int→Int→List Int→Option (Nat×Int×Int×List Int×Int)
 | [],i,Au,Ao,Bc=>(some (1,(Au,Ao,Bc,(i:Int))))
 |x::k,i,Au,Ao,Bc=>(Option.bind (Et a0 x) fun r1=>
 (bif (r1.2 != 0) then (some (0,(0,r1.2,Bc,(i:Int))))
 else (if ((Bc.length+ [r1.1].length)*8≤140737488355328) then (if (Bc.length+ [r1.1].length≤maxLen) then (Ic Et L a1 a0 k (i+1) Au Ao (Bc++ [r1.1])) else none) else none)))
theorem Anp(Et:Bf→Ab→Option (Int×Int))(L:Nat)(a1:Ab)(a0:Bf)(n:Nat)(hl:a1.Kids.length≤maxLen)(hn:a1.Kids.length < n):∀(Au:Int) (Ao:Int) (Bc:List Int),J8 Et L a1 a0 n Au Ao Bc 0=Ic Et L a1 a0 a1.Kids 0 Au Ao Bc:=lQ (fun k i n=>∀(Au:Int) (Ao:Int) (Bc:List Int),J8 Et L a1 a0 n Au Ao Bc (i:Int)=Ic Et L a1 a0 k i Au Ao Bc) hl hn (fun n i h Au Ao Bc=>by simp only [J8,Uw,Ic,Hd h,aN,aB,aC]) (fun n i x k h hx ih Au Ao Bc=>by simp only [J8,Uw,Ic,He h,Ru h,hx,Bh h hl,ih,aN,aB,aC])
def D6(L:Nat)(r1:Int×Int)(a2:List Int)(a1:Ab):List Int→Nat→Int→Option (Nat×Int×Int)
 | [],i,Au=>(some (1,(Au,(i:Int))))
 |x::k,i,Au=>(bif (r1.1 == x) then (some (0,(0,(i:Int))))
 else (D6 L r1 a2 a1 k (i+1) Au))
theorem Ack(L:Nat)(r1:Int×Int)(a2:List Int)(a1:Ab)(n:Nat)(hl:a2.length≤maxLen)(hn:a2.length < n):∀(Au:Int),D4 L r1 a2 a1 n Au 0=D6 L r1 a2 a1 a2 0 Au:=lQ (fun k i n=>∀(Au:Int),D4 L r1 a2 a1 n Au (i:Int)=D6 L r1 a2 a1 k i Au) hl hn (fun n i h Au=>by simp only [D4,Jm,D6,Hd h,aN,aB,aC]) (fun n i x k h hx ih Au=>by simp only [D4,Jm,D6,He h,Ru h,hx,Bh h hl,ih,aN,aB,aC])
def Er(L:Nat)(a0:Aj)(r1:Int×Bool)(a1:Ac):List Ah→Nat→Int→Option (Nat×Int×Int)
 | [],i,Cz=>(some (1,(Cz,(i:Int))))
 |x::k,i,Cz=>(bif ((x.Name).toList == a1.Name.toList) then (Option.bind (Bs L a0 a1.E [x.Type_]) fun r2=>
 (some (0,(r2,(i:Int)))))
 else (Er L a0 r1 a1 k (i+1) Cz))
theorem Adz(L:Nat)(a0:Aj)(r1:Int×Bool)(a1:Ac)(n:Nat)(hl:a0.u_env.Site.Vars.length≤maxLen)(hn:a0.u_env.Site.Vars.length < n):∀(Cz:Int),Ep L a0 r1 a1 n Cz 0=Er L a0 r1 a1 a0.u_env.Site.Vars 0 Cz:=lQ (fun k i n=>∀(Cz:Int),Ep L a0 r1 a1 n Cz (i:Int)=Er L a0 r1 a1 k i Cz) hl hn (fun n i h Cz=>by simp only [Ep,K3,Er,Hd h,aN,aB,aC]) (fun n i x k h hx ih Cz=>by simp only [Ep,K3,Er,He h,Ru h,hx,Bh h hl,ih,aN,aB,aC])
def Dv(L:Nat)(r1:Int×Bool)(a2:List Int):List Int→Nat→Int→Option (Nat×Int×Int)
 | [],i,Au=>(some (1,(Au,(i:Int))))
 |x::k,i,Au=>(bif (r1.1 == x) then (some (0,(0,(i:Int))))
 else (Dv L r1 a2 k (i+1) Au))
theorem Abs(L:Nat)(r1:Int×Bool)(a2:List Int)(n:Nat)(hl:a2.length≤maxLen)(hn:a2.length < n):∀(Au:Int),Du L r1 a2 n Au 0=Dv L r1 a2 a2 0 Au:=lQ (fun k i n=>∀(Au:Int),Du L r1 a2 n Au (i:Int)=Dv L r1 a2 k i Au) hl hn (fun n i h Au=>by simp only [Du,Io,Dv,Hd h,aN,aB,aC]) (fun n i x k h hx ih Au=>by simp only [Du,Io,Dv,He h,Ru h,hx,Bh h hl,ih,aN,aB,aC])
def D5(L:Nat)(a0:Aj)(a3:List Ab)(a1:Ac):List Ab→Nat→Int→Option (Nat×Int×Int)
 | [],i,Cz=>(some (1,(Cz,(i:Int))))
 |x::k,i,Cz=>(Option.bind (Bs L a0 x [1]) fun r2=>
 (bif (r2 != 0) then (some (0,(r2,(i:Int))))
 else (D5 L a0 a3 a1 k (i+1) Cz)))
theorem Acj(L:Nat)(a0:Aj)(a3:List Ab)(a1:Ac)(n:Nat)(hl:a3.length≤maxLen)(hn:a3.length < n):∀(Cz:Int),D3 L a0 a3 a1 n Cz 0=D5 L a0 a3 a1 a3 0 Cz:=lQ (fun k i n=>∀(Cz:Int),D3 L a0 a3 a1 n Cz (i:Int)=D5 L a0 a3 a1 k i Cz) hl hn (fun n i h Cz=>by simp only [D3,Jl,D5,Hd h,aN,aB,aC]) (fun n i x k h hx ih Cz=>by simp only [D3,Jl,D5,He h,Ru h,hx,Bh h hl,ih,aN,aB,aC])
def Ls(L:Nat)(p1_0:List Be)(p1_1:Ad)(p1_2:ByteArray)(p1_3:ByteArray):List Be→Nat→Int→Option (Nat×Int×Int)
 | [],i,Ao=>(some (1,(Ao,(i:Int))))
 |x::k,i,Ao=>((fun b1=>
 (bif b1 then (some (0,((i:Int),(i:Int))))
 else (Ls L p1_0 p1_1 p1_2 p1_3 k (i+1) Ao))) (bif ((x.From).toList == p1_2.toList) then ((x.To).toList == p1_3.toList)
 else false))
theorem Ao8(L:Nat)(p1_0:List Be)(p1_1:Ad)(p1_2:ByteArray)(p1_3:ByteArray)(n:Nat)(hl:p1_0.length≤maxLen)(hn:p1_0.length < n):∀(Ao:Int),Lc L p1_0 p1_1 p1_2 p1_3 n Ao 0=Ls L p1_0 p1_1 p1_2 p1_3 p1_0 0 Ao:=lQ (fun k i n=>∀(Ao:Int),Lc L p1_0 p1_1 p1_2 p1_3 n Ao (i:Int)=Ls L p1_0 p1_1 p1_2 p1_3 k i Ao) hl hn (fun n i h Ao=>by simp only [Lc,Wt,Ls,Hd h,aN,aB,aC]) (fun n i x k h hx ih Ao=>by simp only [Lc,Wt,Ls,He h,Ru h,hx,Bh h hl,ih,aN,aB,aC])
def Ef(L:Nat)(a0:Aj)(a2:Ac)(a1:Ak):List Ab→Nat→Int→Option (Nat×Int×Int)
 | [],i,Cz=>(some (1,(Cz,(i:Int))))
 |x::k,i,Cz=>(if ((i:Int) < (a1.Params.length:Int)) then (Option.bind (Bs L a0 x [(a1.Params.getD (Int.toNat (i:Int)) default).Type_]) fun r1=>
 (bif (r1 != 0) then (some (0,(r1,(i:Int))))
 else (Ef L a0 a2 a1 k (i+1) Cz))) else none)
theorem Acu(L:Nat)(a0:Aj)(a2:Ac)(a1:Ak)(n:Nat)(hl:a2.Args.length≤maxLen)(hn:a2.Args.length < n):∀(Cz:Int),Eb L a0 a2 a1 n Cz 0=Ef L a0 a2 a1 a2.Args 0 Cz:=lQ (fun k i n=>∀(Cz:Int),Eb L a0 a2 a1 n Cz (i:Int)=Ef L a0 a2 a1 k i Cz) hl hn (fun n i h Cz=>by simp only [Eb,Km,Ef,Hd h,aN,aB,aC]) (fun n i x k h hx ih Cz=>by simp only [Eb,Km,Ef,He h,Ru h,hx,Bh h hl,ih,aN,aB,aC])
def Eg(Hv:Aj→(List Ac)→Option Int)(L:Nat)(a0:Aj)(a1:List Ac):List Ac→Nat→Int→Option (Nat×Int×Int)
 | [],i,Cz=>(some (1,(Cz,(i:Int))))
 |x::k,i,Cz=>(Option.bind (Kt L a0 x) fun r1=>
 (bif (r1 != 0) then (some (0,(r1,(i:Int))))
 else (Option.bind (Hv a0 (x.Body)) fun r2=>
 (bif (r2 != 0) then (some (0,(r2,(i:Int))))
 else (Option.bind (Hv a0 (x.Else)) fun r3=>
 (bif (r3 != 0) then (some (0,(r3,(i:Int))))
 else (Eg Hv L a0 a1 k (i+1) Cz)))))))
theorem Acv(Hv:Aj→(List Ac)→Option Int)(L:Nat)(a0:Aj)(a1:List Ac)(n:Nat)(hl:a1.length≤maxLen)(hn:a1.length < n):∀(Cz:Int),Ec Hv L a0 a1 n Cz 0=Eg Hv L a0 a1 a1 0 Cz:=lQ (fun k i n=>∀(Cz:Int),Ec Hv L a0 a1 n Cz (i:Int)=Eg Hv L a0 a1 k i Cz) hl hn (fun n i h Cz=>by simp only [Ec,Kn,Eg,Hd h,aN,aB,aC]) (fun n i x k h hx ih Cz=>by simp only [Ec,Kn,Eg,He h,Ru h,hx,Bh h hl,ih,aN,aB,aC])
def I0(L:Nat)(Al:Int)(a0:Ad):List Ak→Nat→Int→Option (Nat×Int×Int)
 | [],i,Cv=>(some (1,(Cv,(i:Int))))
 |x::k,i,Cv=>(if ((0+(x.Params).length)*24≤140737488355328) then (if (0+(x.Params).length≤maxLen) then (if (((x.Params).length+(x.Locals).length)*24≤140737488355328) then (if ((x.Params).length+(x.Locals).length≤maxLen) then (Option.bind (Qb L a0 Al (x.Params++x.Locals) (x.Body)) fun r2=>
 (bif (r2 != 0) then (some (0,(r2,(i:Int))))
 else (I0 L Al a0 k (i+1) Cv))) else none) else none) else none) else none)
theorem Alp(L:Nat)(Al:Int)(a0:Ad)(n:Nat)(hl:((a0.Sites.getD (Int.toNat Al) default).Routines).length≤maxLen)(hn:((a0.Sites.getD (Int.toNat Al) default).Routines).length < n):∀(Cv:Int),Hc L Al a0 n Cv 0=I0 L Al a0 ((a0.Sites.getD (Int.toNat Al) default).Routines) 0 Cv:=lQ (fun k i n=>∀(Cv:Int),Hc L Al a0 n Cv (i:Int)=I0 L Al a0 k i Cv) hl hn (fun n i h Cv=>by simp only [Hc,Ta,I0,Hd h,aN,aB,aC]) (fun n i x k h hx ih Cv=>by simp only [Hc,Ta,I0,He h,Ru h,hx,Bh h hl,ih,aN,aB,aC])
def Iz(L:Nat)(a0:Ad):List Aa→Nat→Int→Option (Nat×Int×Int)
 | [],i,Au=>(some (1,(Au,(i:Int))))
 |x::k,i,Au=>(Option.bind (Hc L (i:Int) a0 L Au 0) fun o3=>
 (Asb o3.1 [(some (0,(o3.2.1,(i:Int)))),(Iz L a0 k (i+1) o3.2.1)]))
theorem Alo(L:Nat)(a0:Ad)(n:Nat)(hl:a0.Sites.length≤maxLen)(hn:a0.Sites.length < n):∀(Au:Int),Hb L a0 n Au 0=Iz L a0 a0.Sites 0 Au:=lQ (fun k i n=>∀(Au:Int),Hb L a0 n Au (i:Int)=Iz L a0 k i Au) hl hn (fun n i h Au=>by simp only [Hb,Yz,Ts,Pr,Iz,Hd h,aN,aB,aC]) (fun n i x k h hx ih Au=>by simp only [Hb,Yz,Ts,Pr,Iz,He h,Ru h,hx,Bh h hl,ih,aN,aB,aC])
def H1(L:Nat)(a0:Int)(a1:List Int):List Int→Nat→Int→Option (Nat×Int×Int)
 | [],i,Bc=>(some (1,(Bc,(i:Int))))
 |x::k,i,Bc=>(Option.bind (V7 L a0 x) fun r1=>
 (bif (!r1) then (some (0,(2,(i:Int))))
 else (Option.bind (bif (decide ((i:Int) > 0)) then (if (0≤(Dp ((i:Int) - 1))) then (if ((Dp ((i:Int) - 1)) < (a1.length:Int)) then (some (decide (x≤(a1.getD (Int.toNat (Dp ((i:Int) - 1))) default)))) else none) else none)
 else (some false)) fun b2=>
 (bif b2 then (some (0,(12,(i:Int))))
 else (H1 L a0 a1 k (i+1) Bc)))))
theorem Ajy(L:Nat)(a0:Int)(a1:List Int)(n:Nat)(hl:a1.length≤maxLen)(hn:a1.length < n):∀(Bc:Int),Hy L a0 a1 n Bc 0=H1 L a0 a1 a1 0 Bc:=lQ (fun k i n=>∀(Bc:Int),Hy L a0 a1 n Bc (i:Int)=H1 L a0 a1 k i Bc) hl hn (fun n i h Bc=>by simp only [Hy,Rr,H1,Hd h,aN,aB,aC]) (fun n i x k h hx ih Bc=>by simp only [Hy,Rr,H1,He h,Ru h,hx,Bh h hl,ih,aN,aB,aC])
def J9(L:Nat)(a0:List Af):List Af→Nat→Int→Option (Nat×Int×Int)
 | [],i,Ao=>(some (0,(Ao,(i:Int))))
 |x::k,i,Ao=>(Option.bind (Ad6 L Ao ((x.Levels).length:Int)) fun r1=>
 (J9 L a0 k (i+1) r1))
theorem Anc(L:Nat)(a0:List Af)(n:Nat)(hl:a0.length≤maxLen)(hn:a0.length < n):∀(Ao:Int),Jy L a0 n Ao 0=J9 L a0 a0 0 Ao:=lQ (fun k i n=>∀(Ao:Int),Jy L a0 n Ao (i:Int)=J9 L a0 k i Ao) hl hn (fun n i h Ao=>by simp only [Jy,Um,J9,Hd h,aN,aB,aC]) (fun n i x k h hx ih Ao=>by simp only [Jy,Um,J9,He h,Ru h,hx,Bh h hl,ih,aN,aB,aC])
def Iw(L:Nat)(p1_0:List Ah)(p1_1:Ad)(p1_2:Af):List Ah→Nat→Int→Option (Nat×Int×Int)
 | [],i,Dz=>(some (1,(Dz,(i:Int))))
 |x::k,i,Dz=>(bif ((x.Name).toList == p1_2.Name.toList) then (some (0,((i:Int),(i:Int))))
 else (Iw L p1_0 p1_1 p1_2 k (i+1) Dz))
theorem All(L:Nat)(p1_0:List Ah)(p1_1:Ad)(p1_2:Af)(n:Nat)(hl:p1_0.length≤maxLen)(hn:p1_0.length < n):∀(Dz:Int),Iq L p1_0 p1_1 p1_2 n Dz 0=Iw L p1_0 p1_1 p1_2 p1_0 0 Dz:=lQ (fun k i n=>∀(Dz:Int),Iq L p1_0 p1_1 p1_2 n Dz (i:Int)=Iw L p1_0 p1_1 p1_2 k i Dz) hl hn (fun n i h Dz=>by simp only [Iq,S6,Iw,Hd h,aN,aB,aC]) (fun n i x k h hx ih Dz=>by simp only [Iq,S6,Iw,He h,Ru h,hx,Bh h hl,ih,aN,aB,aC])
def Ix(L:Nat)(p2_0:List Af)(p2_1:Ad)(p2_2:Af):List Af→Nat→Int→Option (Nat×Int×Int)
 | [],i,Pu=>(some (1,(Pu,(i:Int))))
 |x::k,i,Pu=>(bif ((x.Name).toList == p2_2.Name.toList) then (some (0,((i:Int),(i:Int))))
 else (Ix L p2_0 p2_1 p2_2 k (i+1) Pu))
theorem Alm(L:Nat)(p2_0:List Af)(p2_1:Ad)(p2_2:Af)(n:Nat)(hl:p2_0.length≤maxLen)(hn:p2_0.length < n):∀(Pu:Int),Ir L p2_0 p2_1 p2_2 n Pu 0=Ix L p2_0 p2_1 p2_2 p2_0 0 Pu:=lQ (fun k i n=>∀(Pu:Int),Ir L p2_0 p2_1 p2_2 n Pu (i:Int)=Ix L p2_0 p2_1 p2_2 k i Pu) hl hn (fun n i h Pu=>by simp only [Ir,S7,Ix,Hd h,aN,aB,aC]) (fun n i x k h hx ih Pu=>by simp only [Ir,S7,Ix,He h,Ru h,hx,Bh h hl,ih,aN,aB,aC])
def Iv(L:Nat)(a1:List Af)(a0:Ad):List Af→Nat→Int→Option (Nat×Int×Int)
 | [],i,Ao=>(some (1,(Ao,(i:Int))))
 |x::k,i,Ao=>(Option.bind (Ov L a0.Params a0 x) fun o3=>
 (bif (decide (o3 < 0)) then (some (0,(5,(i:Int))))
 else (if (0≤0) then (if (((i:Int):Int)≤(a1.length:Int)) then (if (((a1.length:Int):Int)≤(a1.length:Int)) then (Option.bind (Ow L ((a1.take (Int.toNat (i:Int))).drop 0) a0 x) fun o5=>
 (bif (decide (o5≥0)) then (some (0,(4,(i:Int))))
 else (if (0≤o3) then (if (o3 < (a0.Params.length:Int)) then (Option.bind (R7 L ((a0.Params.getD (Int.toNat o3) default).Type_) (x.Levels)) fun r6=>
 (bif (r6 != 0) then (some (0,(r6,(i:Int))))
 else (Iv L a1 a0 k (i+1) Ao))) else none) else none))) else none) else none) else none)))
theorem Alk(L:Nat)(a1:List Af)(a0:Ad)(n:Nat)(hl:a1.length≤maxLen)(hn:a1.length < n):∀(Ao:Int),Gb L a1 a0 n Ao 0=Iv L a1 a0 a1 0 Ao:=lQ (fun k i n=>∀(Ao:Int),Gb L a1 a0 n Ao (i:Int)=Iv L a1 a0 k i Ao) hl hn (fun n i h Ao=>by simp only [Gb,Yx,Ti,Tc,Tj,O0,Iv,Hd h,aN,aB,aC]) (fun n i x k h hx ih Ao=>by simp only [Gb,Yx,Ti,Tc,Tj,O0,Iv,He h,Ru h,hx,Bh h hl,ih,aN,aB,aC])
def H2(L:Nat)(p1_0:List Af):List Af→Nat→Int→Option (Nat×Int×Int)
 | [],i,Ao=>(some (1,(Ao,(i:Int))))
 |x::k,i,Ao=>(bif (((x.Levels).length:Int) == 0) then (some (0,((i:Int),(i:Int))))
 else (H2 L p1_0 k (i+1) Ao))
theorem Ajz(L:Nat)(p1_0:List Af)(n:Nat)(hl:p1_0.length≤maxLen)(hn:p1_0.length < n):∀(Ao:Int),Hz L p1_0 n Ao 0=H2 L p1_0 p1_0 0 Ao:=lQ (fun k i n=>∀(Ao:Int),Hz L p1_0 n Ao (i:Int)=H2 L p1_0 k i Ao) hl hn (fun n i h Ao=>by simp only [Hz,Rs,H2,Hd h,aN,aB,aC]) (fun n i x k h hx ih Ao=>by simp only [Hz,Rs,H2,He h,Ru h,hx,Bh h hl,ih,aN,aB,aC])
def Iy(L:Nat)(a0:List Af)(a1:List Int):List Int→Nat→Int→Option (Nat×Int×Int)
 | [],i,Ao=>(some (1,(Ao,(i:Int))))
 |x::k,i,Ao=>(Option.bind (bif (decide (x < 0)) then (some true)
 else (if (0≤(i:Int)) then (if ((i:Int) < (a0.length:Int)) then (some (decide (x≥(((a0.getD (Int.toNat (i:Int)) default).Levels).length:Int)))) else none) else none)) fun b2=>
 (bif b2 then (some (0,(2,(i:Int))))
 else (Iy L a0 a1 k (i+1) Ao)))
theorem Aln(L:Nat)(a0:List Af)(a1:List Int)(n:Nat)(hl:a1.length≤maxLen)(hn:a1.length < n):∀(Ao:Int),It L a0 a1 n Ao 0=Iy L a0 a1 a1 0 Ao:=lQ (fun k i n=>∀(Ao:Int),It L a0 a1 n Ao (i:Int)=Iy L a0 a1 k i Ao) hl hn (fun n i h Ao=>by simp only [It,S9,Iy,Hd h,aN,aB,aC]) (fun n i x k h hx ih Ao=>by simp only [It,S9,Iy,He h,Ru h,hx,Bh h hl,ih,aN,aB,aC])
def Ey(L:Nat)(a0:List Af)(a1:List Int):List Int→Nat→List Ag→Option (Nat×List Ag×Int)
 | [],i,Al=>(some (0,(Al,(i:Int))))
 |x::k,i,Al=>(if ((i:Int) < (a0.length:Int)) then (if ((i:Int) < (a0.length:Int)) then (if (0≤x) then (if (x < ((((a0.getD (Int.toNat (i:Int)) default).Levels).length:Nat):Int)) then (if ((Al.length+ [(⟨(a0.getD (Int.toNat (i:Int)) default).Name,(((a0.getD (Int.toNat (i:Int)) default).Levels).getD (Int.toNat x) default)⟩:Ag)].length)*24≤140737488355328) then (if (Al.length+ [(⟨(a0.getD (Int.toNat (i:Int)) default).Name,(((a0.getD (Int.toNat (i:Int)) default).Levels).getD (Int.toNat x) default)⟩:Ag)].length≤maxLen) then (Ey L a0 a1 k (i+1) (Al++ [(⟨(a0.getD (Int.toNat (i:Int)) default).Name,(((a0.getD (Int.toNat (i:Int)) default).Levels).getD (Int.toNat x) default)⟩:Ag)])) else none) else none) else none) else none) else none) else none)
theorem Ahk(L:Nat)(a0:List Af)(a1:List Int)(n:Nat)(hl:a1.length≤maxLen)(hn:a1.length < n):∀(Al:List Ag),Gm L a0 a1 n Al 0=Ey L a0 a1 a1 0 Al:=lQ (fun k i n=>∀(Al:List Ag),Gm L a0 a1 n Al (i:Int)=Ey L a0 a1 k i Al) hl hn (fun n i h Al=>by simp only [Gm,Ox,Ey,Hd h,aN,aB,aC]) (fun n i x k h hx ih Al=>by simp only [Gm,Ox,Ey,He h,Ru h,hx,Bh h hl,ih,aN,aB,aC])
def Lp(L:Nat)(p4_0:List Ag)(p4_1:Ad)(p4_2:ByteArray)(p4_3:Ag)(p4_4:List Ah):List Ag→Nat→Int→Option (Nat×Int×Int)
 | [],i,Ahr=>(some (1,(Ahr,(i:Int))))
 |x::k,i,Ahr=>(bif ((x.Name).toList == p4_3.Name.toList) then (some (0,((i:Int),(i:Int))))
 else (Lp L p4_0 p4_1 p4_2 p4_3 p4_4 k (i+1) Ahr))
theorem Ao5(L:Nat)(p4_0:List Ag)(p4_1:Ad)(p4_2:ByteArray)(p4_3:Ag)(p4_4:List Ah)(n:Nat)(hl:p4_0.length≤maxLen)(hn:p4_0.length < n):∀(Ahr:Int),K9 L p4_0 p4_1 p4_2 p4_3 p4_4 n Ahr 0=Lp L p4_0 p4_1 p4_2 p4_3 p4_4 p4_0 0 Ahr:=lQ (fun k i n=>∀(Ahr:Int),K9 L p4_0 p4_1 p4_2 p4_3 p4_4 n Ahr (i:Int)=Lp L p4_0 p4_1 p4_2 p4_3 p4_4 k i Ahr) hl hn (fun n i h Ahr=>by simp only [K9,Wq,Lp,Hd h,aN,aB,aC]) (fun n i x k h hx ih Ahr=>by simp only [K9,Wq,Lp,He h,Ru h,hx,Bh h hl,ih,aN,aB,aC])
def Lo(L:Nat)(a1:List Ag)(a0:Ad):List Ag→Nat→Int→ByteArray→List Ah→Option (Nat×Int×Int×ByteArray×List Ah)
 | [],i,Gr,D1,C1=>(some (1,(Gr,(i:Int),D1,C1)))
 |x::k,i,Gr,D1,C1=>(Option.bind (Sa L a0.Params.length a0 D1 x C1) fun o8=>
 (bif (decide (o8 < 0)) then (some (0,(5,(i:Int),(⟨#[]⟩:ByteArray),C1)))
 else (if (0≤0) then (if (((i:Int):Int)≤(a1.length:Int)) then (if (((a1.length:Int):Int)≤(a1.length:Int)) then (Option.bind (Sb L ((a1.take (Int.toNat (i:Int))).drop 0) a0 D1 x C1) fun o10=>
 (bif (decide (o10≥0)) then (some (0,(4,(i:Int),(⟨#[]⟩:ByteArray),C1)))
 else (if (0≤o8) then (if (o8 < (a0.Params.length:Int)) then (Option.bind (Xk L ((C1.getD (Int.toNat o8) default).Type_) (x.N)) fun r11=>
 (bif (!r11) then (some (0,(2,(i:Int),(⟨#[]⟩:ByteArray),C1)))
 else (if (0≤o8) then (if (o8 < (a0.Params.length:Int)) then (Lo L a1 a0 k (i+1) Gr D1 (C1.set (Int.toNat o8) (⟨(C1.getD (Int.toNat o8) default).Name,(C1.getD (Int.toNat o8) default).Type_,x.N⟩:Ah))) else none) else none))) else none) else none))) else none) else none) else none)))
theorem Ao4(L:Nat)(a1:List Ag)(a0:Ad)(n:Nat)(hl:a1.length≤maxLen)(hn:a1.length < n):∀(Gr:Int) (D1:ByteArray) (C1:List Ah),Hr L a1 a0 n Gr 0 D1 C1=Lo L a1 a0 a1 0 Gr D1 C1:=lQ (fun k i n=>∀(Gr:Int) (D1:ByteArray) (C1:List Ah),Hr L a1 a0 n Gr (i:Int) D1 C1=Lo L a1 a0 k i Gr D1 C1) hl hn (fun n i h Gr D1 C1=>by simp only [Hr,Aat,Vg,Uy,Vh,Qo,Lo,Hd h,aN,aB,aC]) (fun n i x k h hx ih Gr D1 C1=>by simp only [Hr,Aat,Vg,Uy,Vh,Qo,Lo,He h,Ru h,hx,Bh h hl,ih,aN,aB,aC])
def F6(L:Nat)(a0:List Ag)(a1:List Ag):List Ag→Nat→Bool→Option (Nat×Bool×Int)
 | [],i,Bc=>(some (1,(Bc,(i:Int))))
 |x::k,i,Bc=>(if ((i:Int) < (a1.length:Int)) then (bif (!((x.Name == (a1.getD (Int.toNat (i:Int)) default).Name) && ((x.N == (a1.getD (Int.toNat (i:Int)) default).N) && true))) then (some (0,(false,(i:Int))))
 else (F6 L a0 a1 k (i+1) Bc)) else none)
theorem Agh(L:Nat)(a0:List Ag)(a1:List Ag)(n:Nat)(hl:a0.length≤maxLen)(hn:a0.length < n):∀(Bc:Bool),F4 L a0 a1 n Bc 0=F6 L a0 a1 a0 0 Bc:=lQ (fun k i n=>∀(Bc:Bool),F4 L a0 a1 n Bc (i:Int)=F6 L a0 a1 k i Bc) hl hn (fun n i h Bc=>by simp only [F4,No,F6,Hd h,aN,aB,aC]) (fun n i x k h hx ih Bc=>by simp only [F4,No,F6,He h,Ru h,hx,Bh h hl,ih,aN,aB,aC])
end Go.Proofs.YtfencmicmnhglaaGreat.Ev
