import Derived.Test.YtofcpkmnhmnfcaaGreatRG1
import Derived.Test.YtofcpkmnhmnfcaaGreatRPa
import Derived.Test.YtofcpkmnhmnfcaaGreatRG2
import Derived.Test.YtofcpkmnhmnfcaaGreatRG3
import Derived.Test.YtofcpkmnhmnfcaaGreatRG4
import Derived.Test.YtofcpkmnhmnfcaaGreatRG5
import Derived.Test.YtofcpkmnhmnfcaaGreatRG6
import Derived.Test.YtofcpkmnhmnfcaaGreatRG7
import Derived.Test.YtofcpkmnhmnfcaaGreatRG8
import Derived.Test.YtofcpkmnhmnfcaaGreatRG9
import Derived.Test.YtofcpkmnhmnfcaaGreatRG10
import Derived.Test.YtofcpkmnhmnfcaaGreatRG11
import Derived.Test.YtofcpkmnhmnfcaaGreatRG12
import Derived.Test.YtofcpkmnhmnfcaaGreatRG13
import Derived.Test.YtofcpkmnhmnfcaaGreatRG14
import Derived.Test.YtofcpkmnhmnfcaaGreatRG15
import Derived.Test.YtofcpkmnhmnfcaaGreatRG16
import Derived.Test.YtofcpkmnhmnfcaaGreatRG17
namespace Go.Proofs.YtofcpkmnhmnfcaaGreatR.Ev
open Go An
set_option maxRecDepth 100000
set_option maxHeartbeats 4000000
set_option linter.unusedVariables false
set_option linter.unusedSimpArgs false
set_option linter.unnecessarySimpa false
theorem aC:(∀i:Nat,(0≤(i:Int))=True)∧(∀i:Nat,Int.toNat (i:Int)=i)∧(∀ {α :Type} (a b: α),cond true a b=a)∧(∀ {α :Type} (a b: α),cond false a b=b)∧(∀ {α :Type} (a b: α),(if True then a else b)=a)∧(∀h:Decidable True,@decide True h=true)∧(∀x:Ab,Ab.mk x.Op x.Name x.N x.Kids=x)∧(∀x:Ab,Ab.cp x=x)∧(∀x:Ad,Ad.mk x.Op x.Name x.Of x.E x.F x.Args x.Dist x.Flag x.Body x.Else=x)∧(∀x:Ad,Ad.cp x=x):=⟨nn,Z8,fun _ _=>rfl,fun _ _=>rfl,fun _ _=>if_true ..,decide_true,Ab.eta,Ab.cp_eq,Ad.eta,Ad.cp_eq⟩
def Qu(Jk:Ab→Option Int)(L:Nat)(a0:Ab):List Ab→Nat→Int→Option (Nat×Int×Int)
 | [],i,Ai=>(some (0,(Ai,(i:Int))))
 |x::k,i,Ai=>(Option.bind (Jk x) fun r1=>
 (Qu Jk L a0 k (i+1) (B7 (Ai+r1))))
theorem A36(Jk:Ab→Option Int)(L:Nat)(a0:Ab)(n:Nat)(hl:a0.Kids.length≤maxLen)(hn:a0.Kids.length < n):∀(Ai:Int),Qb Jk L a0 n Ai 0=Qu Jk L a0 a0.Kids 0 Ai:=lQ (fun k i n=>∀(Ai:Int),Qb Jk L a0 n Ai (i:Int)=Qu Jk L a0 k i Ai) hl hn (fun n i h Ai=>by simp only [Qb,Adv,Qu,C4 h,aN,aB,aC]) (fun n i x k h hx ih Ai=>by simp only [Qb,Adv,Qu,C5 h,Hp h,hx,Aw h hl,ih,aN,aB,aC])
def T0(C1:(List Ad)→Option Int)(L:Nat)(a0:List Ad)(Aj:Int):List Ab→Nat→Int→Option (Nat×Int×Int)
 | [],i,Gh=>(some (0,(Gh,(i:Int))))
 |x::k,i,Gh=>(Option.bind (Gp L x) fun r5=>
 (T0 C1 L a0 Aj k (i+1) (B7 (Gh+r5))))
theorem A74(C1:(List Ad)→Option Int)(L:Nat)(a0:List Ad)(Aj:Int)(n:Nat)(hl:((a0.getD (Int.toNat Aj) default).Args).length≤maxLen)(hn:((a0.getD (Int.toNat Aj) default).Args).length < n):∀(Gh:Int),O7 C1 L a0 Aj n Gh 0=T0 C1 L a0 Aj ((a0.getD (Int.toNat Aj) default).Args) 0 Gh:=lQ (fun k i n=>∀(Gh:Int),O7 C1 L a0 Aj n Gh (i:Int)=T0 C1 L a0 Aj k i Gh) hl hn (fun n i h Gh=>by simp only [O7,Ah6,T0,C4 h,aN,aB,aC]) (fun n i x k h hx ih Gh=>by simp only [O7,Ah6,T0,C5 h,Hp h,hx,Aw h hl,ih,aN,aB,aC])
def Tz(C1:(List Ad)→Option Int)(L:Nat)(a0:List Ad):List Ad→Nat→Int→Option (Nat×Int×Int)
 | [],i,Ak=>(some (0,(Ak,(i:Int))))
 |x::k,i,Ak=>(Option.bind (Gp L (x.E)) fun r1=>
 (Option.bind (Gp L (x.F)) fun r2=>
 (Option.bind (C1 (x.Body)) fun r3=>
 (Option.bind (C1 (x.Else)) fun r4=>
 (Option.bind (O7 C1 L a0 (i:Int) L (B7 ((B7 ((B7 ((B7 ((B7 ((B7 ((B7 (Ak+1))+r1))+r2))+(((x.Dist).Values).length:Int)))+(((x.Dist).Weights).length:Int)))+r3))+r4)) 0) fun o6=>
 (As0 o6.1 [(Tz C1 L a0 k (i+1) o6.2.1)]))))))
theorem A73(C1:(List Ad)→Option Int)(L:Nat)(a0:List Ad)(n:Nat)(hl:a0.length≤maxLen)(hn:a0.length < n):∀(Ak:Int),O5 C1 L a0 n Ak 0=Tz C1 L a0 a0 0 Ak:=lQ (fun k i n=>∀(Ak:Int),O5 C1 L a0 n Ak (i:Int)=Tz C1 L a0 k i Ak) hl hn (fun n i h Ak=>by simp only [O5,Aom,Air,Aax,Tz,C4 h,aN,aB,aC]) (fun n i x k h hx ih Ak=>by simp only [O5,Aom,Air,Aax,Tz,C5 h,Hp h,hx,Aw h hl,ih,aN,aB,aC])
def Tw(L:Nat)(Al:Int)(Ak:Int)(a0:Ac):List Am→Nat→Int→Option (Nat×Int×Int)
 | [],i,Bt=>(some (0,(Bt,(i:Int))))
 |x::k,i,Bt=>(Option.bind (P4 L (x.Body)) fun r2=>
 (Tw L Al Ak a0 k (i+1) (B7 (Bt+(B7 ((B7 ((B7 (1+((x.Params).length:Int)))+((x.Locals).length:Int)))+r2))))))
theorem A7z(L:Nat)(Al:Int)(Ak:Int)(a0:Ac)(n:Nat)(hl:((a0.Sites.getD (Int.toNat Ak) default).Routines).length≤maxLen)(hn:((a0.Sites.getD (Int.toNat Ak) default).Routines).length < n):∀(Bt:Int),O2 L Al Ak a0 n Bt 0=Tw L Al Ak a0 ((a0.Sites.getD (Int.toNat Ak) default).Routines) 0 Bt:=lQ (fun k i n=>∀(Bt:Int),O2 L Al Ak a0 n Bt (i:Int)=Tw L Al Ak a0 k i Bt) hl hn (fun n i h Bt=>by simp only [O2,Ah2,Tw,C4 h,aN,aB,aC]) (fun n i x k h hx ih Bt=>by simp only [O2,Ah2,Tw,C5 h,Hp h,hx,Aw h hl,ih,aN,aB,aC])
def Tv(L:Nat)(a0:Ac):List Aa→Nat→Int→Int→Option (Nat×Int×Int×Int)
 | [],i,Al,Ai=>(some (1,(Al,Ai,(i:Int))))
 |x::k,i,Al,Ai=>(Option.bind (Ai0 L x) fun r1=>
 (bif (!r1) then (some (0,(1048576,Ai,(i:Int))))
 else (Option.bind (O2 L Al (i:Int) a0 L (B7 (Ai+(B7 ((B7 ((B7 (1+((x.Vars).length:Int)))+((x.Starts).length:Int)))+((x.Laws).length:Int))))) 0) fun o3=>
 (As0 o3.1 [(Tv L a0 k (i+1) Al o3.2.1)]))))
theorem A7y(L:Nat)(a0:Ac)(n:Nat)(hl:a0.Sites.length≤maxLen)(hn:a0.Sites.length < n):∀(Al:Int) (Ai:Int),O1 L a0 n Al Ai 0=Tv L a0 a0.Sites 0 Al Ai:=lQ (fun k i n=>∀(Al:Int) (Ai:Int),O1 L a0 n Al Ai (i:Int)=Tv L a0 k i Al Ai) hl hn (fun n i h Al Ai=>by simp only [O1,Aol,Aio,Aas,Tv,C4 h,aN,aB,aC]) (fun n i x k h hx ih Al Ai=>by simp only [O1,Aol,Aio,Aas,Tv,C5 h,Hp h,hx,Aw h hl,ih,aN,aB,aC])
def D5(L:Nat)(a0:Ah):List F1→Nat→Int→Option (Nat×Int×Int)
 | [],i,Al=>(some (1,(Al,(i:Int))))
 |x::k,i,Al=>(Option.bind (Bh L (x.At) 0 (B7 (a0.Cycle - 1))) fun r2=>
 (bif (!r2) then (bif (!r2) then (some (0,(2,(i:Int))))
 else (bif (decide ((i:Int) > 0)) then (if (0≤(B7 ((i:Int) - 1))) then (if ((B7 ((i:Int) - 1)) < (a0.Shift.length:Int)) then (bif (decide (x.At≤(a0.Shift.getD (Int.toNat (B7 ((i:Int) - 1))) default).At)) then (some (0,(12,(i:Int))))
 else (D5 L a0 k (i+1) Al)) else none) else none)
 else (D5 L a0 k (i+1) Al)))
 else (Option.bind (Bh L (x.Units) 0 1000) fun r3=>
 (bif (!r3) then (some (0,(2,(i:Int))))
 else (bif (decide ((i:Int) > 0)) then (if (0≤(B7 ((i:Int) - 1))) then (if ((B7 ((i:Int) - 1)) < (a0.Shift.length:Int)) then (bif (decide (x.At≤(a0.Shift.getD (Int.toNat (B7 ((i:Int) - 1))) default).At)) then (some (0,(12,(i:Int))))
 else (D5 L a0 k (i+1) Al)) else none) else none)
 else (D5 L a0 k (i+1) Al))))))
theorem Aul(L:Nat)(a0:Ah)(n:Nat)(hl:a0.Shift.length≤maxLen)(hn:a0.Shift.length < n):∀(Al:Int),H3 L a0 n Al 0=D5 L a0 a0.Shift 0 Al:=lQ (fun k i n=>∀(Al:Int),H3 L a0 n Al (i:Int)=D5 L a0 k i Al) hl hn (fun n i h Al=>by simp only [H3,Ug,D5,C4 h,aN,aB,aC]) (fun n i x k h hx ih Al=>by simp only [H3,Ug,D5,C5 h,Hp h,hx,Aw h hl,ih,aN,aB,aC])
def Gy(L:Nat)(a0:List Int)(a1:List Int):List Int→Nat→Bool→Option (Nat×Bool×Int)
 | [],i,Ak=>(some (1,(Ak,(i:Int))))
 |x::k,i,Ak=>(if ((i:Int) < (a1.length:Int)) then (bif (x != (a1.getD (Int.toNat (i:Int)) default)) then (some (0,(false,(i:Int))))
 else (Gy L a0 a1 k (i+1) Ak)) else none)
theorem Ars(L:Nat)(a0:List Int)(a1:List Int)(n:Nat)(hl:a0.length≤maxLen)(hn:a0.length < n):∀(Ak:Bool),Gv L a0 a1 n Ak 0=Gy L a0 a1 a0 0 Ak:=lQ (fun k i n=>∀(Ak:Bool),Gv L a0 a1 n Ak (i:Int)=Gy L a0 a1 k i Ak) hl hn (fun n i h Ak=>by simp only [Gv,Rl,Gy,C4 h,aN,aB,aC]) (fun n i x k h hx ih Ak=>by simp only [Gv,Rl,Gy,C5 h,Hp h,hx,Aw h hl,ih,aN,aB,aC])
def Ep(L:Nat)(a0:List ByteArray)(a1:ByteArray):List ByteArray→Nat→Int→Option (Nat×Int×Int)
 | [],i,Ak=>(some (1,(Ak,(i:Int))))
 |x::k,i,Ak=>(bif (a1.toList == x.toList) then (some (0,((i:Int),(i:Int))))
 else (Ep L a0 a1 k (i+1) Ak))
theorem Am3(L:Nat)(a0:List ByteArray)(a1:ByteArray)(n:Nat)(hl:a0.length≤maxLen)(hn:a0.length < n):∀(Ak:Int),Ek L a0 a1 n Ak 0=Ep L a0 a1 a0 0 Ak:=lQ (fun k i n=>∀(Ak:Int),Ek L a0 a1 n Ak (i:Int)=Ep L a0 a1 k i Ak) hl hn (fun n i h Ak=>by simp only [Ek,L4,Ep,C4 h,aN,aB,aC]) (fun n i x k h hx ih Ak=>by simp only [Ek,L4,Ep,C5 h,Hp h,hx,Aw h hl,ih,aN,aB,aC])
def Lr(L:Nat)(p1_0:List Int)(p1_1:Int)(p1_2:Int):List Int→Nat→Int→Option (Nat×Int×Int)
 | [],i,Ai=>(some (1,(Ai,(i:Int))))
 |x::k,i,Ai=>((fun b1=>
 (bif b1 then (some (0,((i:Int),(i:Int))))
 else (Lr L p1_0 p1_1 p1_2 k (i+1) Ai))) (bif (decide (x < p1_1)) then true
 else (decide (x > p1_2))))
theorem Azc(L:Nat)(p1_0:List Int)(p1_1:Int)(p1_2:Int)(n:Nat)(hl:p1_0.length≤maxLen)(hn:p1_0.length < n):∀(Ai:Int),Ld L p1_0 p1_1 p1_2 n Ai 0=Lr L p1_0 p1_1 p1_2 p1_0 0 Ai:=lQ (fun k i n=>∀(Ai:Int),Ld L p1_0 p1_1 p1_2 n Ai (i:Int)=Lr L p1_0 p1_1 p1_2 k i Ai) hl hn (fun n i h Ai=>by simp only [Ld,j9,Lr,C4 h,aN,aB,aC]) (fun n i x k h hx ih Ai=>by simp only [Ld,j9,Lr,C5 h,Hp h,hx,Aw h hl,ih,aN,aB,aC])
def Ed(L:Nat)(a0:List (List Ap)):List ((List Ap))→Nat→Int→Option (Nat×Int×Int)
 | [],i,Ak=>(some (0,(Ak,(i:Int))))
 |x::k,i,Ak=>(bif (decide ((B7 (Ak+(x.length:Int))) < 0)) then none
 else (Ed L a0 k (i+1) (B7 (Ak+(x.length:Int)))))
theorem Aje(L:Nat)(a0:List (List Ap))(n:Nat)(hl:a0.length≤maxLen)(hn:a0.length < n):∀(Ak:Int),Dd L a0 n Ak 0=Ed L a0 a0 0 Ak:=lQ (fun k i n=>∀(Ak:Int),Dd L a0 n Ak (i:Int)=Ed L a0 k i Ak) hl hn (fun n i h Ak=>by simp only [Dd,Ip,Ed,C4 h,aN,aB,aC]) (fun n i x k h hx ih Ak=>by simp only [Dd,Ip,Ed,C5 h,Hp h,hx,Aw h hl,ih,aN,aB,aC])
def Ee(L:Nat)(a0:List (List Ap)):List ((List Ap))→Nat→List Ap→Option (Nat×List Ap×Int)
 | [],i,Bt=>(some (0,(Bt,(i:Int))))
 |x::k,i,Bt=>(if ((Bt.length+x.length)*24≤140737488355328) then (if (Bt.length+x.length≤maxLen) then (Ee L a0 k (i+1) (Bt++x)) else none) else none)
theorem Ajf(L:Nat)(a0:List (List Ap))(n:Nat)(hl:a0.length≤maxLen)(hn:a0.length < n):∀(Bt:List Ap),De L a0 n Bt 0=Ee L a0 a0 0 Bt:=lQ (fun k i n=>∀(Bt:List Ap),De L a0 n Bt (i:Int)=Ee L a0 k i Bt) hl hn (fun n i h Bt=>by simp only [De,Iq,Ee,C4 h,aN,aB,aC]) (fun n i x k h hx ih Bt=>by simp only [De,Iq,Ee,C5 h,Hp h,hx,Aw h hl,ih,aN,aB,aC])
def Kt(Ey:(List Ad)→Option Int)(L:Nat)(a0:List Ad):List Ad→Nat→Int→Option (Nat×Int×Int)
 | [],i,Ai=>(some (0,(Ai,(i:Int))))
 |x::k,i,Ai=>(Option.bind (Ey (x.Body)) fun r1=>
 (Option.bind (Ey (x.Else)) fun r2=>
 (Kt Ey L a0 k (i+1) (B7 (Ai+(B7 (r1+r2)))))))
theorem A1k(Ey:(List Ad)→Option Int)(L:Nat)(a0:List Ad)(n:Nat)(hl:a0.length≤maxLen)(hn:a0.length < n):∀(Ai:Int),Np Ey L a0 n Ai 0=Kt Ey L a0 a0 0 Ai:=lQ (fun k i n=>∀(Ai:Int),Np Ey L a0 n Ai (i:Int)=Kt Ey L a0 k i Ai) hl hn (fun n i h Ai=>by simp only [Np,Abq,Kt,C4 h,aN,aB,aC]) (fun n i x k h hx ih Ai=>by simp only [Np,Abq,Kt,C5 h,Hp h,hx,Aw h hl,ih,aN,aB,aC])
def Ku(Ez:(List Ad)→Option Int)(L:Nat)(a0:List Ad):List Ad→Nat→Int→Option (Nat×Int×Int)
 | [],i,Ai=>(some (0,(Ai,(i:Int))))
 |x::k,i,Ai=>(Option.bind (Ez (x.Body)) fun r1=>
 (Option.bind (Ez (x.Else)) fun r2=>
 (Ku Ez L a0 k (i+1) (if (B7 (1+r2)) > (if (B7 (1+r1)) > Ai then (B7 (1+r1)) else Ai) then (B7 (1+r2)) else (if (B7 (1+r1)) > Ai then (B7 (1+r1)) else Ai)))))
theorem A1l(Ez:(List Ad)→Option Int)(L:Nat)(a0:List Ad)(n:Nat)(hl:a0.length≤maxLen)(hn:a0.length < n):∀(Ai:Int),Nq Ez L a0 n Ai 0=Ku Ez L a0 a0 0 Ai:=lQ (fun k i n=>∀(Ai:Int),Nq Ez L a0 n Ai (i:Int)=Ku Ez L a0 k i Ai) hl hn (fun n i h Ai=>by simp only [Nq,Abr,Ku,C4 h,aN,aB,aC]) (fun n i x k h hx ih Ai=>by simp only [Nq,Abr,Ku,C5 h,Hp h,hx,Aw h hl,ih,aN,aB,aC])
def Uy(Eu:Ab→Ab→Option Bool)(L:Nat)(a0:Ab)(a1:Ab):List Ab→Nat→Bool→Option (Nat×Bool×Int)
 | [],i,Al=>(some (1,(Al,(i:Int))))
 |x::k,i,Al=>(if ((i:Int) < (a1.Kids.length:Int)) then (Option.bind (Eu x (a1.Kids.getD (Int.toNat (i:Int)) default)) fun r4=>
 (bif (!r4) then (some (0,(false,(i:Int))))
 else (Uy Eu L a0 a1 k (i+1) Al))) else none)
theorem A4n(Eu:Ab→Ab→Option Bool)(L:Nat)(a0:Ab)(a1:Ab)(n:Nat)(hl:a0.Kids.length≤maxLen)(hn:a0.Kids.length < n):∀(Al:Bool),Qr Eu L a0 a1 n Al 0=Uy Eu L a0 a1 a0.Kids 0 Al:=lQ (fun k i n=>∀(Al:Bool),Qr Eu L a0 a1 n Al (i:Int)=Uy Eu L a0 a1 k i Al) hl hn (fun n i h Al=>by simp only [Qr,Aec,Uy,C4 h,aN,aB,aC]) (fun n i x k h hx ih Al=>by simp only [Qr,Aec,Uy,C5 h,Hp h,hx,Aw h hl,ih,aN,aB,aC])
def Nz(F9:Ab→Option Int)(L:Nat)(a0:Ab):List Ab→Nat→Int→Option (Nat×Int×Int)
 | [],i,Ai=>(some (0,(Ai,(i:Int))))
 |x::k,i,Ai=>(Option.bind (F9 x) fun r1=>
 (Nz F9 L a0 k (i+1) (B7 (Ai+r1))))
theorem A07(F9:Ab→Option Int)(L:Nat)(a0:Ab)(n:Nat)(hl:a0.Kids.length≤maxLen)(hn:a0.Kids.length < n):∀(Ai:Int),Nj F9 L a0 n Ai 0=Nz F9 L a0 a0.Kids 0 Ai:=lQ (fun k i n=>∀(Ai:Int),Nj F9 L a0 n Ai (i:Int)=Nz F9 L a0 k i Ai) hl hn (fun n i h Ai=>by simp only [Nj,Abk,Nz,C4 h,aN,aB,aC]) (fun n i x k h hx ih Ai=>by simp only [Nj,Abk,Nz,C5 h,Hp h,hx,Aw h hl,ih,aN,aB,aC])
def Ny(Ga:Ab→Option Int)(L:Nat)(a0:Ab):List Ab→Nat→Int→Option (Nat×Int×Int)
 | [],i,Ai=>(some (0,(Ai,(i:Int))))
 |x::k,i,Ai=>(Option.bind (Ga x) fun r1=>
 (Ny Ga L a0 k (i+1) (if r1 > Ai then r1 else Ai)))
theorem A06(Ga:Ab→Option Int)(L:Nat)(a0:Ab)(n:Nat)(hl:a0.Kids.length≤maxLen)(hn:a0.Kids.length < n):∀(Ai:Int),Ni Ga L a0 n Ai 0=Ny Ga L a0 a0.Kids 0 Ai:=lQ (fun k i n=>∀(Ai:Int),Ni Ga L a0 n Ai (i:Int)=Ny Ga L a0 k i Ai) hl hn (fun n i h Ai=>by simp only [Ni,Abj,Ny,C4 h,aN,aB,aC]) (fun n i x k h hx ih Ai=>by simp only [Ni,Abj,Ny,C5 h,Hp h,hx,Aw h hl,ih,aN,aB,aC])
def Gf(Et:Bl→Ab→Option Int)(L:Nat)(a1:Ab)(a0:Bl):List Ab→Nat→Int→Option (Nat×Int×Int)
 | [],i,Al=>(some (1,(Al,(i:Int))))
 |x::k,i,Al=>(Option.bind (Et (⟨a0.u_code⟩:Bl) x) fun r2=>
 (bif (r2 != 0) then (some (0,(r2,(i:Int))))
 else (Gf Et L a1 a0 k (i+1) Al)))
theorem Asw(Et:Bl→Ab→Option Int)(L:Nat)(a1:Ab)(a0:Bl)(n:Nat)(hl:a1.Kids.length≤maxLen)(hn:a1.Kids.length < n):∀(Al:Int),Hi Et L a1 a0 n Al 0=Gf Et L a1 a0 a1.Kids 0 Al:=lQ (fun k i n=>∀(Al:Int),Hi Et L a1 a0 n Al (i:Int)=Gf Et L a1 a0 k i Al) hl hn (fun n i h Al=>by simp only [Hi,Sv,Gf,C4 h,aN,aB,aC]) (fun n i x k h hx ih Al=>by simp only [Hi,Sv,Gf,C5 h,Hp h,hx,Aw h hl,ih,aN,aB,aC])
def Kv(L:Nat)(a0:Ad)(a1:Bp):List Ab→Nat→Int→Option (Nat×Int×Int)
 | [],i,D6=>(some (1,(D6,(i:Int))))
 |x::k,i,D6=>(Option.bind (Sm L x) fun r6=>
 (bif (r6 != 0) then (some (0,(r6,(i:Int))))
 else (Kv L a0 a1 k (i+1) D6)))
theorem A1n(L:Nat)(a0:Ad)(a1:Bp)(n:Nat)(hl:a0.Args.length≤maxLen)(hn:a0.Args.length < n):∀(D6:Int),Nu L a0 a1 n D6 0=Kv L a0 a1 a0.Args 0 D6:=lQ (fun k i n=>∀(D6:Int),Nu L a0 a1 n D6 (i:Int)=Kv L a0 a1 k i D6) hl hn (fun n i h D6=>by simp only [Nu,Abt,Kv,C4 h,aN,aB,aC]) (fun n i x k h hx ih D6=>by simp only [Nu,Abt,Kv,C5 h,Hp h,hx,Aw h hl,ih,aN,aB,aC])
def N3(E5:(List Ad)→Option Int)(L:Nat)(a0:List Ad):List Ad→Nat→Int→Option (Nat×Int×Int)
 | [],i,Al=>(some (1,(Al,(i:Int))))
 |x::k,i,Al=>(Option.bind (Ai6 L (x.Op)) fun r1=>
 (Option.bind (bif (!r1.2) then (some true)
 else (Option.bind (Ai5 L x r1.1) fun r3=>
 (some (!r3)))) fun b2=>
 (bif b2 then (some (0,(1,(i:Int))))
 else (Option.bind (Ada L x r1.1) fun r4=>
 (bif (r4 != 0) then (some (0,(r4,(i:Int))))
 else (Option.bind (E5 (x.Body)) fun r5=>
 (bif (r5 != 0) then (some (0,(r5,(i:Int))))
 else (Option.bind (E5 (x.Else)) fun r6=>
 (bif (r6 != 0) then (some (0,(r6,(i:Int))))
 else (N3 E5 L a0 k (i+1) Al))))))))))
theorem A1m(E5:(List Ad)→Option Int)(L:Nat)(a0:List Ad)(n:Nat)(hl:a0.length≤maxLen)(hn:a0.length < n):∀(Al:Int),Nr E5 L a0 n Al 0=N3 E5 L a0 a0 0 Al:=lQ (fun k i n=>∀(Al:Int),Nr E5 L a0 n Al (i:Int)=N3 E5 L a0 k i Al) hl hn (fun n i h Al=>by simp only [Nr,Abs,N3,C4 h,aN,aB,aC]) (fun n i x k h hx ih Al=>by simp only [Nr,Abs,N3,C5 h,Hp h,hx,Aw h hl,ih,aN,aB,aC])
def Eo(L:Nat)(r2:List Ap)(a0:Am):List Ap→Nat→Int→List ByteArray→List Bool→Option (Nat×Int×Int×List ByteArray×List Bool)
 | [],i,Al,C2,Dn=>(some (1,(Al,(i:Int),C2,Dn)))
 |x::k,i,Al,C2,Dn=>(Option.bind (K8 L (x.Name) a0 x C2 Dn) fun o7=>
 (bif (o7.1 != 0) then (some (0,(o7.1,(i:Int),o7.2.1,o7.2.2)))
 else (Option.bind (L1 L (x.Type_)) fun r8=>
 (bif (!r8) then (some (0,(1,(i:Int),o7.2.1,o7.2.2)))
 else (Eo L r2 a0 k (i+1) Al o7.2.1 o7.2.2)))))
theorem Avn(L:Nat)(r2:List Ap)(a0:Am)(n:Nat)(hl:r2.length≤maxLen)(hn:r2.length < n):∀(Al:Int) (C2:List ByteArray) (Dn:List Bool),Hj L r2 a0 n Al 0 C2 Dn=Eo L r2 a0 r2 0 Al C2 Dn:=lQ (fun k i n=>∀(Al:Int) (C2:List ByteArray) (Dn:List Bool),Hj L r2 a0 n Al (i:Int) C2 Dn=Eo L r2 a0 k i Al C2 Dn) hl hn (fun n i h Al C2 Dn=>by simp only [Hj,Acf,Wb,Rc,Eo,C4 h,aN,aB,aC]) (fun n i x k h hx ih Al C2 Dn=>by simp only [Hj,Acf,Wb,Rc,Eo,C5 h,Hp h,hx,Aw h hl,ih,aN,aB,aC])
def I7(L:Nat)(p1_0:List Am)(p1_1:Aa)(p1_2:ByteArray):List Am→Nat→Int→Option (Nat×Int×Int)
 | [],i,Ai=>(some (1,(Ai,(i:Int))))
 |x::k,i,Ai=>(bif ((x.Name).toList == p1_2.toList) then (some (0,((i:Int),(i:Int))))
 else (I7 L p1_0 p1_1 p1_2 k (i+1) Ai))
theorem Avm(L:Nat)(p1_0:List Am)(p1_1:Aa)(p1_2:ByteArray)(n:Nat)(hl:p1_0.length≤maxLen)(hn:p1_0.length < n):∀(Ai:Int),I4 L p1_0 p1_1 p1_2 n Ai 0=I7 L p1_0 p1_1 p1_2 p1_0 0 Ai:=lQ (fun k i n=>∀(Ai:Int),I4 L p1_0 p1_1 p1_2 n Ai (i:Int)=I7 L p1_0 p1_1 p1_2 k i Ai) hl hn (fun n i h Ai=>by simp only [I4,V2,I7,C4 h,aN,aB,aC]) (fun n i x k h hx ih Ai=>by simp only [I4,V2,I7,C5 h,Hp h,hx,Aw h hl,ih,aN,aB,aC])
def Jf(L:Nat)(a0:Aa)(r1:Int)(a1:Br):List Int→Nat→Int→Option (Nat×Int×Int)
 | [],i,Al=>(some (1,(Al,(i:Int))))
 |x::k,i,Al=>(if ((i:Int) < ((((a0.Routines.getD (Int.toNat r1) default).Params).length:Nat):Int)) then (Option.bind (Vu L ((((a0.Routines.getD (Int.toNat r1) default).Params).getD (Int.toNat (i:Int)) default).Type_) x) fun r2=>
 (bif (!r2) then (some (0,(2,(i:Int))))
 else (Jf L a0 r1 a1 k (i+1) Al))) else none)
theorem Azk(L:Nat)(a0:Aa)(r1:Int)(a1:Br)(n:Nat)(hl:a1.Args.length≤maxLen)(hn:a1.Args.length < n):∀(Al:Int),Lj L a0 r1 a1 n Al 0=Jf L a0 r1 a1 a1.Args 0 Al:=lQ (fun k i n=>∀(Al:Int),Lj L a0 r1 a1 n Al (i:Int)=Jf L a0 r1 a1 k i Al) hl hn (fun n i h Al=>by simp only [Lj,m6,Jf,C4 h,aN,aB,aC]) (fun n i x k h hx ih Al=>by simp only [Lj,m6,Jf,C5 h,Hp h,hx,Aw h hl,ih,aN,aB,aC])
def N2(L:Nat)(p1_0:List Ar)(p1_1:Aa)(p1_2:Ay):List Ar→Nat→Int→Option (Nat×Int×Int)
 | [],i,Ai=>(some (1,(Ai,(i:Int))))
 |x::k,i,Ai=>(bif ((x.Name).toList == p1_2.Name.toList) then (some (0,((i:Int),(i:Int))))
 else (N2 L p1_0 p1_1 p1_2 k (i+1) Ai))
theorem A1j(L:Nat)(p1_0:List Ar)(p1_1:Aa)(p1_2:Ay)(n:Nat)(hl:p1_0.length≤maxLen)(hn:p1_0.length < n):∀(Ai:Int),No L p1_0 p1_1 p1_2 n Ai 0=N2 L p1_0 p1_1 p1_2 p1_0 0 Ai:=lQ (fun k i n=>∀(Ai:Int),No L p1_0 p1_1 p1_2 n Ai (i:Int)=N2 L p1_0 p1_1 p1_2 k i Ai) hl hn (fun n i h Ai=>by simp only [No,Abp,N2,C4 h,aN,aB,aC]) (fun n i x k h hx ih Ai=>by simp only [No,Abp,N2,C5 h,Hp h,hx,Aw h hl,ih,aN,aB,aC])
def Rz(L:Nat)(p11_0:List Ay)(p11_1:Aa)(p11_2:List ByteArray)(p11_3:List Bool)(p11_4:A9)(p11_5:A9):List Ay→Nat→Int→Option (Nat×Int×Int)
 | [],i,Bo=>(some (1,(Bo,(i:Int))))
 |x::k,i,Bo=>(Option.bind (d9 L p11_1 x) fun r6=>
 (bif (r6 != 0) then (some (0,(r6,(i:Int))))
 else (Rz L p11_0 p11_1 p11_2 p11_3 p11_4 p11_5 k (i+1) Bo)))
theorem A1b(L:Nat)(p11_0:List Ay)(p11_1:Aa)(p11_2:List ByteArray)(p11_3:List Bool)(p11_4:A9)(p11_5:A9)(n:Nat)(hl:p11_0.length≤maxLen)(hn:p11_0.length < n):∀(Bo:Int),Nm L p11_0 p11_1 p11_2 p11_3 p11_4 p11_5 n Bo 0=Rz L p11_0 p11_1 p11_2 p11_3 p11_4 p11_5 p11_0 0 Bo:=lQ (fun k i n=>∀(Bo:Int),Nm L p11_0 p11_1 p11_2 p11_3 p11_4 p11_5 n Bo (i:Int)=Rz L p11_0 p11_1 p11_2 p11_3 p11_4 p11_5 k i Bo) hl hn (fun n i h Bo=>by simp only [Nm,Abn,Rz,C4 h,aN,aB,aC]) (fun n i x k h hx ih Bo=>by simp only [Nm,Abn,Rz,C5 h,Hp h,hx,Aw h hl,ih,aN,aB,aC])
def Ry(L:Nat)(p1_0:List A9)(p1_1:Aa):List A9→Nat→Int→List ByteArray→List Bool→Option (Nat×Int×Int×List ByteArray×List Bool)
 | [],i,Al,Dl,Dm=>(some (1,(Al,(i:Int),Dl,Dm)))
 |x::k,i,Al,Dl,Dm=>(Option.bind (Rx L x p1_1 Dl Dm x) fun o10=>
 (bif (o10.1 != 0) then (some (0,(o10.1,(i:Int),o10.2.1,o10.2.2)))
 else (Ry L p1_0 p1_1 k (i+1) Al o10.2.1 o10.2.2)))
theorem A1a(L:Nat)(p1_0:List A9)(p1_1:Aa)(n:Nat)(hl:p1_0.length≤maxLen)(hn:p1_0.length < n):∀(Al:Int) (Dl:List ByteArray) (Dm:List Bool),Km L p1_0 p1_1 n Al 0 Dl Dm=Ry L p1_0 p1_1 p1_0 0 Al Dl Dm:=lQ (fun k i n=>∀(Al:Int) (Dl:List ByteArray) (Dm:List Bool),Km L p1_0 p1_1 n Al (i:Int) Dl Dm=Ry L p1_0 p1_1 k i Al Dl Dm) hl hn (fun n i h Al Dl Dm=>by simp only [Km,Aj5,x0,U8,Ry,C4 h,aN,aB,aC]) (fun n i x k h hx ih Al Dl Dm=>by simp only [Km,Aj5,x0,U8,Ry,C5 h,Hp h,hx,Aw h hl,ih,aN,aB,aC])
def R1(L:Nat)(p41_0:List Ag)(p41_1:Aa):List Ag→Nat→Int→List ByteArray→List Bool→Option (Nat×Int×Int×List ByteArray×List Bool)
 | [],i,Al,Dl,Dm=>(some (1,(Al,(i:Int),Dl,Dm)))
 |x::k,i,Al,Dl,Dm=>(Option.bind (Pw L x p41_1 Dl Dm x) fun o8=>
 (bif (o8.1 != 0) then (some (0,(o8.1,(i:Int),o8.2.1,o8.2.2)))
 else (R1 L p41_0 p41_1 k (i+1) Al o8.2.1 o8.2.2)))
theorem A1c(L:Nat)(p41_0:List Ag)(p41_1:Aa)(n:Nat)(hl:p41_0.length≤maxLen)(hn:p41_0.length < n):∀(Al:Int) (Dl:List ByteArray) (Dm:List Bool),Kn L p41_0 p41_1 n Al 0 Dl Dm=R1 L p41_0 p41_1 p41_0 0 Al Dl Dm:=lQ (fun k i n=>∀(Al:Int) (Dl:List ByteArray) (Dm:List Bool),Kn L p41_0 p41_1 n Al (i:Int) Dl Dm=R1 L p41_0 p41_1 k i Al Dl Dm) hl hn (fun n i h Al Dl Dm=>by simp only [Kn,Aj6,y7,Vc,R1,C4 h,aN,aB,aC]) (fun n i x k h hx ih Al Dl Dm=>by simp only [Kn,Aj6,y7,Vc,R1,C5 h,Hp h,hx,Aw h hl,ih,aN,aB,aC])
def R2(L:Nat)(p48_0:List Ah)(p48_1:Aa):List Ah→Nat→Int→List ByteArray→List Bool→Option (Nat×Int×Int×List ByteArray×List Bool)
 | [],i,Bo,Od,Oe=>(some (1,(Bo,(i:Int),Od,Oe)))
 |x::k,i,Bo,Od,Oe=>(Option.bind (Px L x p48_1 Od Oe x) fun o19=>
 (bif (o19.1 != 0) then (some (0,(o19.1,(i:Int),o19.2.1,o19.2.2)))
 else (R2 L p48_0 p48_1 k (i+1) Bo o19.2.1 o19.2.2)))
theorem A1d(L:Nat)(p48_0:List Ah)(p48_1:Aa)(n:Nat)(hl:p48_0.length≤maxLen)(hn:p48_0.length < n):∀(Bo:Int) (Od:List ByteArray) (Oe:List Bool),Ko L p48_0 p48_1 n Bo 0 Od Oe=R2 L p48_0 p48_1 p48_0 0 Bo Od Oe:=lQ (fun k i n=>∀(Bo:Int) (Od:List ByteArray) (Oe:List Bool),Ko L p48_0 p48_1 n Bo (i:Int) Od Oe=R2 L p48_0 p48_1 k i Bo Od Oe) hl hn (fun n i h Bo Od Oe=>by simp only [Ko,Aj7,y8,Vd,R2,C4 h,aN,aB,aC]) (fun n i x k h hx ih Bo Od Oe=>by simp only [Ko,Aj7,y8,Vd,R2,C5 h,Hp h,hx,Aw h hl,ih,aN,aB,aC])
def R3(L:Nat)(p55_0:List Ar)(p55_1:Aa):List Ar→Nat→Int→List ByteArray→List Bool→Option (Nat×Int×Int×List ByteArray×List Bool)
 | [],i,D6,Fs,Og=>(some (1,(D6,(i:Int),Fs,Og)))
 |x::k,i,D6,Fs,Og=>(Option.bind (Py L x p55_1 Fs Og x) fun o29=>
 (bif (o29.1 != 0) then (some (0,(o29.1,(i:Int),o29.2.1,o29.2.2)))
 else (R3 L p55_0 p55_1 k (i+1) D6 o29.2.1 o29.2.2)))
theorem A1e(L:Nat)(p55_0:List Ar)(p55_1:Aa)(n:Nat)(hl:p55_0.length≤maxLen)(hn:p55_0.length < n):∀(D6:Int) (Fs:List ByteArray) (Og:List Bool),Kp L p55_0 p55_1 n D6 0 Fs Og=R3 L p55_0 p55_1 p55_0 0 D6 Fs Og:=lQ (fun k i n=>∀(D6:Int) (Fs:List ByteArray) (Og:List Bool),Kp L p55_0 p55_1 n D6 (i:Int) Fs Og=R3 L p55_0 p55_1 k i D6 Fs Og) hl hn (fun n i h D6 Fs Og=>by simp only [Kp,Aj8,y9,Ve,R3,C4 h,aN,aB,aC]) (fun n i x k h hx ih D6 Fs Og=>by simp only [Kp,Aj8,y9,Ve,R3,C5 h,Hp h,hx,Aw h hl,ih,aN,aB,aC])
def R4(L:Nat)(p62_0:List Ax)(p62_1:Aa):List Ax→Nat→Int→List ByteArray→List Bool→Option (Nat×Int×Int×List ByteArray×List Bool)
 | [],i,He,Oh,Fv=>(some (1,(He,(i:Int),Oh,Fv)))
 |x::k,i,He,Oh,Fv=>(Option.bind (Pz L x p62_1 Oh Fv x) fun o40=>
 (bif (o40.1 != 0) then (some (0,(o40.1,(i:Int),o40.2.1,o40.2.2)))
 else (R4 L p62_0 p62_1 k (i+1) He o40.2.1 o40.2.2)))
theorem A1f(L:Nat)(p62_0:List Ax)(p62_1:Aa)(n:Nat)(hl:p62_0.length≤maxLen)(hn:p62_0.length < n):∀(He:Int) (Oh:List ByteArray) (Fv:List Bool),Kq L p62_0 p62_1 n He 0 Oh Fv=R4 L p62_0 p62_1 p62_0 0 He Oh Fv:=lQ (fun k i n=>∀(He:Int) (Oh:List ByteArray) (Fv:List Bool),Kq L p62_0 p62_1 n He (i:Int) Oh Fv=R4 L p62_0 p62_1 k i He Oh Fv) hl hn (fun n i h He Oh Fv=>by simp only [Kq,Aj9,z6,Vf,R4,C4 h,aN,aB,aC]) (fun n i x k h hx ih He Oh Fv=>by simp only [Kq,Aj9,z6,Vf,R4,C5 h,Hp h,hx,Aw h hl,ih,aN,aB,aC])
def R5(L:Nat)(p69_0:List ByteArray)(p69_1:Aa):List ByteArray→Nat→Int→List ByteArray→List Bool→Option (Nat×Int×Int×List ByteArray×List Bool)
 | [],i,Ma,Oi,Oj=>(some (1,(Ma,(i:Int),Oi,Oj)))
 |x::k,i,Ma,Oi,Oj=>(Option.bind (P0 L x p69_1 Oi Oj) fun o47=>
 (bif (o47.1 != 0) then (some (0,(o47.1,(i:Int),o47.2.1,o47.2.2)))
 else (R5 L p69_0 p69_1 k (i+1) Ma o47.2.1 o47.2.2)))
theorem A1g(L:Nat)(p69_0:List ByteArray)(p69_1:Aa)(n:Nat)(hl:p69_0.length≤maxLen)(hn:p69_0.length < n):∀(Ma:Int) (Oi:List ByteArray) (Oj:List Bool),Kr L p69_0 p69_1 n Ma 0 Oi Oj=R5 L p69_0 p69_1 p69_0 0 Ma Oi Oj:=lQ (fun k i n=>∀(Ma:Int) (Oi:List ByteArray) (Oj:List Bool),Kr L p69_0 p69_1 n Ma (i:Int) Oi Oj=R5 L p69_0 p69_1 k i Ma Oi Oj) hl hn (fun n i h Ma Oi Oj=>by simp only [Kr,Aka,z7,Vg,R5,C4 h,aN,aB,aC]) (fun n i x k h hx ih Ma Oi Oj=>by simp only [Kr,Aka,z7,Vg,R5,C5 h,Hp h,hx,Aw h hl,ih,aN,aB,aC])
def R6(L:Nat)(p72_0:List Am)(p72_1:Aa):List Am→Nat→Int→List ByteArray→List Bool→Option (Nat×Int×Int×List ByteArray×List Bool)
 | [],i,Mb,Ok,Ol=>(some (1,(Mb,(i:Int),Ok,Ol)))
 |x::k,i,Mb,Ok,Ol=>(Option.bind (P1 L x p72_1 Ok Ol x) fun o60=>
 (bif (o60.1 != 0) then (some (0,(o60.1,(i:Int),o60.2.1,o60.2.2)))
 else (R6 L p72_0 p72_1 k (i+1) Mb o60.2.1 o60.2.2)))
theorem A1h(L:Nat)(p72_0:List Am)(p72_1:Aa)(n:Nat)(hl:p72_0.length≤maxLen)(hn:p72_0.length < n):∀(Mb:Int) (Ok:List ByteArray) (Ol:List Bool),Ks L p72_0 p72_1 n Mb 0 Ok Ol=R6 L p72_0 p72_1 p72_0 0 Mb Ok Ol:=lQ (fun k i n=>∀(Mb:Int) (Ok:List ByteArray) (Ol:List Bool),Ks L p72_0 p72_1 n Mb (i:Int) Ok Ol=R6 L p72_0 p72_1 k i Mb Ok Ol) hl hn (fun n i h Mb Ok Ol=>by simp only [Ks,Akb,Ym,S7,R6,C4 h,aN,aB,aC]) (fun n i x k h hx ih Mb Ok Ol=>by simp only [Ks,Akb,Ym,S7,R6,C5 h,Hp h,hx,Aw h hl,ih,aN,aB,aC])
def R7(L:Nat)(p79_0:List Br)(p79_1:Aa)(p79_2:List ByteArray)(p79_3:List Bool):List Br→Nat→Int→Option (Nat×Int×Int)
 | [],i,As1=>(some (1,(As1,(i:Int))))
 |x::k,i,As1=>(Option.bind (W6 L p79_1 x) fun r63=>
 (bif (r63 != 0) then (some (0,(r63,(i:Int))))
 else (R7 L p79_0 p79_1 p79_2 p79_3 k (i+1) As1)))
theorem A1i(L:Nat)(p79_0:List Br)(p79_1:Aa)(p79_2:List ByteArray)(p79_3:List Bool)(n:Nat)(hl:p79_0.length≤maxLen)(hn:p79_0.length < n):∀(As1:Int),Nn L p79_0 p79_1 p79_2 p79_3 n As1 0=R7 L p79_0 p79_1 p79_2 p79_3 p79_0 0 As1:=lQ (fun k i n=>∀(As1:Int),Nn L p79_0 p79_1 p79_2 p79_3 n As1 (i:Int)=R7 L p79_0 p79_1 p79_2 p79_3 k i As1) hl hn (fun n i h As1=>by simp only [Nn,Abo,R7,C4 h,aN,aB,aC]) (fun n i x k h hx ih As1=>by simp only [Nn,Abo,R7,C5 h,Hp h,hx,Aw h hl,ih,aN,aB,aC])
def N1(L:Nat)(p1_0:List Aa)(p1_1:Ac)(p1_2:ByteArray):List Aa→Nat→Int→Option (Nat×Int×Int)
 | [],i,Ai=>(some (1,(Ai,(i:Int))))
 |x::k,i,Ai=>(bif ((x.Name).toList == p1_2.toList) then (some (0,((i:Int),(i:Int))))
 else (N1 L p1_0 p1_1 p1_2 k (i+1) Ai))
theorem A09(L:Nat)(p1_0:List Aa)(p1_1:Ac)(p1_2:ByteArray)(n:Nat)(hl:p1_0.length≤maxLen)(hn:p1_0.length < n):∀(Ai:Int),Nl L p1_0 p1_1 p1_2 n Ai 0=N1 L p1_0 p1_1 p1_2 p1_0 0 Ai:=lQ (fun k i n=>∀(Ai:Int),Nl L p1_0 p1_1 p1_2 n Ai (i:Int)=N1 L p1_0 p1_1 p1_2 k i Ai) hl hn (fun n i h Ai=>by simp only [Nl,Abm,N1,C4 h,aN,aB,aC]) (fun n i x k h hx ih Ai=>by simp only [Nl,Abm,N1,C5 h,Hp h,hx,Aw h hl,ih,aN,aB,aC])
def Je(L:Nat)(p1_0:List Bk)(p1_1:Ac):List Bk→Nat→Int→List Bs→List Bool→Option (Nat×Int×Int×List Bs×List Bool)
 | [],i,Al,C2,Dn=>(some (1,(Al,(i:Int),C2,Dn)))
 |x::k,i,Al,C2,Dn=>(Option.bind (Uu L x p1_1 C2 Dn x) fun o8=>
 (bif (o8.1 != 0) then (some (0,(o8.1,(i:Int),o8.2.1,o8.2.2)))
 else (Je L p1_0 p1_1 k (i+1) Al o8.2.1 o8.2.2)))
theorem Azf(L:Nat)(p1_0:List Bk)(p1_1:Ac)(n:Nat)(hl:p1_0.length≤maxLen)(hn:p1_0.length < n):∀(Al:Int) (C2:List Bs) (Dn:List Bool),Jd L p1_0 p1_1 n Al 0 C2 Dn=Je L p1_0 p1_1 p1_0 0 Al C2 Dn:=lQ (fun k i n=>∀(Al:Int) (C2:List Bs) (Dn:List Bool),Jd L p1_0 p1_1 n Al (i:Int) C2 Dn=Je L p1_0 p1_1 k i Al C2 Dn) hl hn (fun n i h Al C2 Dn=>by simp only [Jd,Agx,x9,Va,Je,C4 h,aN,aB,aC]) (fun n i x k h hx ih Al C2 Dn=>by simp only [Jd,Agx,x9,Va,Je,C5 h,Hp h,hx,Aw h hl,ih,aN,aB,aC])
def P2(L:Nat)(p1_0:List Ag)(p1_1:Ac):List Ag→Nat→Int→List ByteArray→List Bool→Option (Nat×Int×Int×List ByteArray×List Bool)
 | [],i,Al,C2,Dn=>(some (1,(Al,(i:Int),C2,Dn)))
 |x::k,i,Al,C2,Dn=>(Option.bind (Pv L x p1_1 C2 Dn x) fun o9=>
 (bif (o9.1 != 0) then (some (0,(o9.1,(i:Int),o9.2.1,o9.2.2)))
 else (P2 L p1_0 p1_1 k (i+1) Al o9.2.1 o9.2.2)))
theorem Azd(L:Nat)(p1_0:List Ag)(p1_1:Ac)(n:Nat)(hl:p1_0.length≤maxLen)(hn:p1_0.length < n):∀(Al:Int) (C2:List ByteArray) (Dn:List Bool),Jb L p1_0 p1_1 n Al 0 C2 Dn=P2 L p1_0 p1_1 p1_0 0 Al C2 Dn:=lQ (fun k i n=>∀(Al:Int) (C2:List ByteArray) (Dn:List Bool),Jb L p1_0 p1_1 n Al (i:Int) C2 Dn=P2 L p1_0 p1_1 k i Al C2 Dn) hl hn (fun n i h Al C2 Dn=>by simp only [Jb,Agv,w8,U7,P2,C4 h,aN,aB,aC]) (fun n i x k h hx ih Al C2 Dn=>by simp only [Jb,Agv,w8,U7,P2,C5 h,Hp h,hx,Aw h hl,ih,aN,aB,aC])
def P3(L:Nat)(p8_0:List Aa)(p8_1:Ac)(p8_2:List ByteArray)(p8_3:List Bool):List Aa→Nat→Int→List ByteArray→List Bool→Option (Nat×Int×Int×List ByteArray×List Bool)
 | [],i,Bo,Jl,Oc=>(some (1,(Bo,(i:Int),Jl,Oc)))
 |x::k,i,Bo,Jl,Oc=>(Option.bind (M7 L x p8_1 p8_2 p8_3 Jl Oc x) fun o18=>
 (bif (o18.1 != 0) then (some (0,(o18.1,(i:Int),o18.2.1,o18.2.2)))
 else (P3 L p8_0 p8_1 p8_2 p8_3 k (i+1) Bo o18.2.1 o18.2.2)))
theorem Aze(L:Nat)(p8_0:List Aa)(p8_1:Ac)(p8_2:List ByteArray)(p8_3:List Bool)(n:Nat)(hl:p8_0.length≤maxLen)(hn:p8_0.length < n):∀(Bo:Int) (Jl:List ByteArray) (Oc:List Bool),Jc L p8_0 p8_1 p8_2 p8_3 n Bo 0 Jl Oc=P3 L p8_0 p8_1 p8_2 p8_3 p8_0 0 Bo Jl Oc:=lQ (fun k i n=>∀(Bo:Int) (Jl:List ByteArray) (Oc:List Bool),Jc L p8_0 p8_1 p8_2 p8_3 n Bo (i:Int) Jl Oc=P3 L p8_0 p8_1 p8_2 p8_3 k i Bo Jl Oc) hl hn (fun n i h Bo Jl Oc=>by simp only [Jc,Agw,Yj,S4,P3,C4 h,aN,aB,aC]) (fun n i x k h hx ih Bo Jl Oc=>by simp only [Jc,Agw,Yj,S4,P3,C5 h,Hp h,hx,Aw h hl,ih,aN,aB,aC])
def Lw(L:Nat)(a1:ByteArray)(a0:Aq):List Ag→Nat→Int→Bool→Option (Nat×Int×Bool×Int)
 | [],i,Ai,Ak=>(some (1,(Ai,Ak,(i:Int))))
 |x::k,i,Ai,Ak=>(bif ((x.Name).toList == a1.toList) then (some (0,((x.Type_),true,(i:Int))))
 else (Lw L a1 a0 k (i+1) Ai Ak))
theorem Azl(L:Nat)(a1:ByteArray)(a0:Aq)(n:Nat)(hl:a0.Site.Vars.length≤maxLen)(hn:a0.Site.Vars.length < n):∀(Ai:Int) (Ak:Bool),Ll L a1 a0 n Ai Ak 0=Lw L a1 a0 a0.Site.Vars 0 Ai Ak:=lQ (fun k i n=>∀(Ai:Int) (Ak:Bool),Ll L a1 a0 n Ai Ak (i:Int)=Lw L a1 a0 k i Ai Ak) hl hn (fun n i h Ai Ak=>by simp only [Ll,m7,Lw,C4 h,aN,aB,aC]) (fun n i x k h hx ih Ai Ak=>by simp only [Ll,m7,Lw,C5 h,Hp h,hx,Aw h hl,ih,aN,aB,aC])
def Lx(L:Nat)(a1:ByteArray)(a0:Aq):List Ag→Nat→Int→Bool→Option (Nat×Int×Bool×Int)
 | [],i,Bt,Gh=>(some (1,(Bt,Gh,(i:Int))))
 |x::k,i,Bt,Gh=>(bif ((x.Name).toList == a1.toList) then (some (0,((x.Type_),true,(i:Int))))
 else (Lx L a1 a0 k (i+1) Bt Gh))
theorem Azm(L:Nat)(a1:ByteArray)(a0:Aq)(n:Nat)(hl:a0.Params.length≤maxLen)(hn:a0.Params.length < n):∀(Bt:Int) (Gh:Bool),Lm L a1 a0 n Bt Gh 0=Lx L a1 a0 a0.Params 0 Bt Gh:=lQ (fun k i n=>∀(Bt:Int) (Gh:Bool),Lm L a1 a0 n Bt Gh (i:Int)=Lx L a1 a0 k i Bt Gh) hl hn (fun n i h Bt Gh=>by simp only [Lm,m8,Lx,C4 h,aN,aB,aC]) (fun n i x k h hx ih Bt Gh=>by simp only [Lm,m8,Lx,C5 h,Hp h,hx,Aw h hl,ih,aN,aB,aC])
def Ls(L:Nat)(p1_0:List Ag)(p1_1:Aa)(p1_2:ByteArray):List Ag→Nat→Int→Option (Nat×Int×Int)
 | [],i,Ai=>(some (1,(Ai,(i:Int))))
 |x::k,i,Ai=>(bif ((x.Name).toList == p1_2.toList) then (some (0,((i:Int),(i:Int))))
 else (Ls L p1_0 p1_1 p1_2 k (i+1) Ai))
theorem Azg(L:Nat)(p1_0:List Ag)(p1_1:Aa)(p1_2:ByteArray)(n:Nat)(hl:p1_0.length≤maxLen)(hn:p1_0.length < n):∀(Ai:Int),Lf L p1_0 p1_1 p1_2 n Ai 0=Ls L p1_0 p1_1 p1_2 p1_0 0 Ai:=lQ (fun k i n=>∀(Ai:Int),Lf L p1_0 p1_1 p1_2 n Ai (i:Int)=Ls L p1_0 p1_1 p1_2 k i Ai) hl hn (fun n i h Ai=>by simp only [Lf,m0,Ls,C4 h,aN,aB,aC]) (fun n i x k h hx ih Ai=>by simp only [Lf,m0,Ls,C5 h,Hp h,hx,Aw h hl,ih,aN,aB,aC])
def Lt(L:Nat)(p2_0:List Ah)(p2_1:Aa)(p2_2:ByteArray):List Ah→Nat→Int→Option (Nat×Int×Int)
 | [],i,Bt=>(some (1,(Bt,(i:Int))))
 |x::k,i,Bt=>(bif ((x.Name).toList == p2_2.toList) then (some (0,((i:Int),(i:Int))))
 else (Lt L p2_0 p2_1 p2_2 k (i+1) Bt))
theorem Azh(L:Nat)(p2_0:List Ah)(p2_1:Aa)(p2_2:ByteArray)(n:Nat)(hl:p2_0.length≤maxLen)(hn:p2_0.length < n):∀(Bt:Int),Lg L p2_0 p2_1 p2_2 n Bt 0=Lt L p2_0 p2_1 p2_2 p2_0 0 Bt:=lQ (fun k i n=>∀(Bt:Int),Lg L p2_0 p2_1 p2_2 n Bt (i:Int)=Lt L p2_0 p2_1 p2_2 k i Bt) hl hn (fun n i h Bt=>by simp only [Lg,m3,Lt,C4 h,aN,aB,aC]) (fun n i x k h hx ih Bt=>by simp only [Lg,m3,Lt,C5 h,Hp h,hx,Aw h hl,ih,aN,aB,aC])
def Lu(L:Nat)(p3_0:List Ar)(p3_1:Aa)(p3_2:ByteArray):List Ar→Nat→Int→Option (Nat×Int×Int)
 | [],i,Ef=>(some (1,(Ef,(i:Int))))
 |x::k,i,Ef=>(bif ((x.Name).toList == p3_2.toList) then (some (0,((i:Int),(i:Int))))
 else (Lu L p3_0 p3_1 p3_2 k (i+1) Ef))
theorem Azi(L:Nat)(p3_0:List Ar)(p3_1:Aa)(p3_2:ByteArray)(n:Nat)(hl:p3_0.length≤maxLen)(hn:p3_0.length < n):∀(Ef:Int),Lh L p3_0 p3_1 p3_2 n Ef 0=Lu L p3_0 p3_1 p3_2 p3_0 0 Ef:=lQ (fun k i n=>∀(Ef:Int),Lh L p3_0 p3_1 p3_2 n Ef (i:Int)=Lu L p3_0 p3_1 p3_2 k i Ef) hl hn (fun n i h Ef=>by simp only [Lh,m4,Lu,C4 h,aN,aB,aC]) (fun n i x k h hx ih Ef=>by simp only [Lh,m4,Lu,C5 h,Hp h,hx,Aw h hl,ih,aN,aB,aC])
def Lv(L:Nat)(p4_0:List Ax)(p4_1:Aa)(p4_2:ByteArray):List Ax→Nat→Int→Option (Nat×Int×Int)
 | [],i,Cq=>(some (1,(Cq,(i:Int))))
 |x::k,i,Cq=>(bif ((x.Name).toList == p4_2.toList) then (some (0,((i:Int),(i:Int))))
 else (Lv L p4_0 p4_1 p4_2 k (i+1) Cq))
theorem Azj(L:Nat)(p4_0:List Ax)(p4_1:Aa)(p4_2:ByteArray)(n:Nat)(hl:p4_0.length≤maxLen)(hn:p4_0.length < n):∀(Cq:Int),Li L p4_0 p4_1 p4_2 n Cq 0=Lv L p4_0 p4_1 p4_2 p4_0 0 Cq:=lQ (fun k i n=>∀(Cq:Int),Li L p4_0 p4_1 p4_2 n Cq (i:Int)=Lv L p4_0 p4_1 p4_2 k i Cq) hl hn (fun n i h Cq=>by simp only [Li,m5,Lv,C4 h,aN,aB,aC]) (fun n i x k h hx ih Cq=>by simp only [Li,m5,Lv,C5 h,Hp h,hx,Aw h hl,ih,aN,aB,aC])
def Jg(Gb:Aq→Ab→Option (Int×Int))(L:Nat)(a1:Ab)(a0:Aq):List Ab→Nat→Int→Int→List Int→Option (Nat×Int×Int×List Int×Int)
 | [],i,Al,Ai,Ak=>(some (1,(Al,Ai,Ak,(i:Int))))
 |x::k,i,Al,Ai,Ak=>(Option.bind (Gb a0 x) fun r1=>
 (bif (r1.2 != 0) then (some (0,(0,r1.2,Ak,(i:Int))))
 else (if ((Ak.length+ [r1.1].length)*8≤140737488355328) then (if (Ak.length+ [r1.1].length≤maxLen) then (Jg Gb L a1 a0 k (i+1) Al Ai (Ak++ [r1.1])) else none) else none)))
theorem Azn(Gb:Aq→Ab→Option (Int×Int))(L:Nat)(a1:Ab)(a0:Aq)(n:Nat)(hl:a1.Kids.length≤maxLen)(hn:a1.Kids.length < n):∀(Al:Int) (Ai:Int) (Ak:List Int),Ln Gb L a1 a0 n Al Ai Ak 0=Jg Gb L a1 a0 a1.Kids 0 Al Ai Ak:=lQ (fun k i n=>∀(Al:Int) (Ai:Int) (Ak:List Int),Ln Gb L a1 a0 n Al Ai Ak (i:Int)=Jg Gb L a1 a0 k i Al Ai Ak) hl hn (fun n i h Al Ai Ak=>by simp only [Ln,m9,Jg,C4 h,aN,aB,aC]) (fun n i x k h hx ih Al Ai Ak=>by simp only [Ln,m9,Jg,C5 h,Hp h,hx,Aw h hl,ih,aN,aB,aC])
def Ea(L:Nat)(r1:Int×Int)(a2:List Int)(a1:Ab):List Int→Nat→Int→Option (Nat×Int×Int)
 | [],i,Al=>(some (1,(Al,(i:Int))))
 |x::k,i,Al=>(bif (r1.1 == x) then (some (0,(0,(i:Int))))
 else (Ea L r1 a2 a1 k (i+1) Al))
theorem Amq(L:Nat)(r1:Int×Int)(a2:List Int)(a1:Ab)(n:Nat)(hl:a2.length≤maxLen)(hn:a2.length < n):∀(Al:Int),D8 L r1 a2 a1 n Al 0=Ea L r1 a2 a1 a2 0 Al:=lQ (fun k i n=>∀(Al:Int),D8 L r1 a2 a1 n Al (i:Int)=Ea L r1 a2 a1 k i Al) hl hn (fun n i h Al=>by simp only [D8,K0,Ea,C4 h,aN,aB,aC]) (fun n i x k h hx ih Al=>by simp only [D8,K0,Ea,C5 h,Hp h,hx,Aw h hl,ih,aN,aB,aC])
def F5(L:Nat)(a0:Ao)(r1:Int×Bool)(a1:Ad):List Ag→Nat→Int→Option (Nat×Int×Int)
 | [],i,C6=>(some (1,(C6,(i:Int))))
 |x::k,i,C6=>(bif ((x.Name).toList == a1.Name.toList) then (Option.bind (Bw L a0 a1.E [x.Type_]) fun r2=>
 (some (0,(r2,(i:Int)))))
 else (F5 L a0 r1 a1 k (i+1) C6))
theorem Aoo(L:Nat)(a0:Ao)(r1:Int×Bool)(a1:Ad)(n:Nat)(hl:a0.u_env.Site.Vars.length≤maxLen)(hn:a0.u_env.Site.Vars.length < n):∀(C6:Int),F4 L a0 r1 a1 n C6 0=F5 L a0 r1 a1 a0.u_env.Site.Vars 0 C6:=lQ (fun k i n=>∀(C6:Int),F4 L a0 r1 a1 n C6 (i:Int)=F5 L a0 r1 a1 k i C6) hl hn (fun n i h C6=>by simp only [F4,M8,F5,C4 h,aN,aB,aC]) (fun n i x k h hx ih C6=>by simp only [F4,M8,F5,C5 h,Hp h,hx,Aw h hl,ih,aN,aB,aC])
def Dy(L:Nat)(r1:Int×Bool)(a2:List Int):List Int→Nat→Int→Option (Nat×Int×Int)
 | [],i,Al=>(some (1,(Al,(i:Int))))
 |x::k,i,Al=>(bif (r1.1 == x) then (some (0,(0,(i:Int))))
 else (Dy L r1 a2 k (i+1) Al))
theorem Alf(L:Nat)(r1:Int×Bool)(a2:List Int)(n:Nat)(hl:a2.length≤maxLen)(hn:a2.length < n):∀(Al:Int),Dx L r1 a2 n Al 0=Dy L r1 a2 a2 0 Al:=lQ (fun k i n=>∀(Al:Int),Dx L r1 a2 n Al (i:Int)=Dy L r1 a2 k i Al) hl hn (fun n i h Al=>by simp only [Dx,Jr,Dy,C4 h,aN,aB,aC]) (fun n i x k h hx ih Al=>by simp only [Dx,Jr,Dy,C5 h,Hp h,hx,Aw h hl,ih,aN,aB,aC])
def D9(L:Nat)(a0:Ao)(a3:List Ab)(a1:Ad):List Ab→Nat→Int→Option (Nat×Int×Int)
 | [],i,C6=>(some (1,(C6,(i:Int))))
 |x::k,i,C6=>(Option.bind (Bw L a0 x [1]) fun r2=>
 (bif (r2 != 0) then (some (0,(r2,(i:Int))))
 else (D9 L a0 a3 a1 k (i+1) C6)))
theorem Amp(L:Nat)(a0:Ao)(a3:List Ab)(a1:Ad)(n:Nat)(hl:a3.length≤maxLen)(hn:a3.length < n):∀(C6:Int),D7 L a0 a3 a1 n C6 0=D9 L a0 a3 a1 a3 0 C6:=lQ (fun k i n=>∀(C6:Int),D7 L a0 a3 a1 n C6 (i:Int)=D9 L a0 a3 a1 k i C6) hl hn (fun n i h C6=>by simp only [D7,Kz,D9,C4 h,aN,aB,aC]) (fun n i x k h hx ih C6=>by simp only [D7,Kz,D9,C5 h,Hp h,hx,Aw h hl,ih,aN,aB,aC])
def N0(L:Nat)(p1_0:List Bk)(p1_1:Ac)(p1_2:ByteArray)(p1_3:ByteArray):List Bk→Nat→Int→Option (Nat×Int×Int)
 | [],i,Ai=>(some (1,(Ai,(i:Int))))
 |x::k,i,Ai=>((fun b1=>
 (bif b1 then (some (0,((i:Int),(i:Int))))
 else (N0 L p1_0 p1_1 p1_2 p1_3 k (i+1) Ai))) (bif ((x.From).toList == p1_2.toList) then ((x.To).toList == p1_3.toList)
 else false))
theorem A08(L:Nat)(p1_0:List Bk)(p1_1:Ac)(p1_2:ByteArray)(p1_3:ByteArray)(n:Nat)(hl:p1_0.length≤maxLen)(hn:p1_0.length < n):∀(Ai:Int),Nk L p1_0 p1_1 p1_2 p1_3 n Ai 0=N0 L p1_0 p1_1 p1_2 p1_3 p1_0 0 Ai:=lQ (fun k i n=>∀(Ai:Int),Nk L p1_0 p1_1 p1_2 p1_3 n Ai (i:Int)=N0 L p1_0 p1_1 p1_2 p1_3 k i Ai) hl hn (fun n i h Ai=>by simp only [Nk,Abl,N0,C4 h,aN,aB,aC]) (fun n i x k h hx ih Ai=>by simp only [Nk,Abl,N0,C5 h,Hp h,hx,Aw h hl,ih,aN,aB,aC])
def Er(L:Nat)(a0:Ao)(a2:Ad)(a1:Am):List Ab→Nat→Int→Option (Nat×Int×Int)
 | [],i,C6=>(some (1,(C6,(i:Int))))
 |x::k,i,C6=>(if ((i:Int) < (a1.Params.length:Int)) then (Option.bind (Bw L a0 x [(a1.Params.getD (Int.toNat (i:Int)) default).Type_]) fun r1=>
 (bif (r1 != 0) then (some (0,(r1,(i:Int))))
 else (Er L a0 a2 a1 k (i+1) C6))) else none)
theorem Am4(L:Nat)(a0:Ao)(a2:Ad)(a1:Am)(n:Nat)(hl:a2.Args.length≤maxLen)(hn:a2.Args.length < n):∀(C6:Int),El L a0 a2 a1 n C6 0=Er L a0 a2 a1 a2.Args 0 C6:=lQ (fun k i n=>∀(C6:Int),El L a0 a2 a1 n C6 (i:Int)=Er L a0 a2 a1 k i C6) hl hn (fun n i h C6=>by simp only [El,L5,Er,C4 h,aN,aB,aC]) (fun n i x k h hx ih C6=>by simp only [El,L5,Er,C5 h,Hp h,hx,Aw h hl,ih,aN,aB,aC])
def Es(Iz:Ao→(List Ad)→Option Int)(L:Nat)(a0:Ao)(a1:List Ad):List Ad→Nat→Int→Option (Nat×Int×Int)
 | [],i,C6=>(some (1,(C6,(i:Int))))
 |x::k,i,C6=>(Option.bind (Md L a0 x) fun r1=>
 (bif (r1 != 0) then (some (0,(r1,(i:Int))))
 else (Option.bind (Iz a0 (x.Body)) fun r2=>
 (bif (r2 != 0) then (some (0,(r2,(i:Int))))
 else (Option.bind (Iz a0 (x.Else)) fun r3=>
 (bif (r3 != 0) then (some (0,(r3,(i:Int))))
 else (Es Iz L a0 a1 k (i+1) C6)))))))
theorem Am5(Iz:Ao→(List Ad)→Option Int)(L:Nat)(a0:Ao)(a1:List Ad)(n:Nat)(hl:a1.length≤maxLen)(hn:a1.length < n):∀(C6:Int),Em Iz L a0 a1 n C6 0=Es Iz L a0 a1 a1 0 C6:=lQ (fun k i n=>∀(C6:Int),Em Iz L a0 a1 n C6 (i:Int)=Es Iz L a0 a1 k i C6) hl hn (fun n i h C6=>by simp only [Em,L6,Es,C4 h,aN,aB,aC]) (fun n i x k h hx ih C6=>by simp only [Em,L6,Es,C5 h,Hp h,hx,Aw h hl,ih,aN,aB,aC])
def Kd(L:Nat)(Aj:Int)(a0:Ac):List Am→Nat→Int→Option (Nat×Int×Int)
 | [],i,Bo=>(some (1,(Bo,(i:Int))))
 |x::k,i,Bo=>(if ((0+(x.Params).length)*24≤140737488355328) then (if (0+(x.Params).length≤maxLen) then (if (((x.Params).length+(x.Locals).length)*24≤140737488355328) then (if ((x.Params).length+(x.Locals).length≤maxLen) then (Option.bind (Um L a0 Aj (x.Params++x.Locals) (x.Body)) fun r2=>
 (bif (r2 != 0) then (some (0,(r2,(i:Int))))
 else (Kd L Aj a0 k (i+1) Bo))) else none) else none) else none) else none)
theorem Axs(L:Nat)(Aj:Int)(a0:Ac)(n:Nat)(hl:((a0.Sites.getD (Int.toNat Aj) default).Routines).length≤maxLen)(hn:((a0.Sites.getD (Int.toNat Aj) default).Routines).length < n):∀(Bo:Int),Ia L Aj a0 n Bo 0=Kd L Aj a0 ((a0.Sites.getD (Int.toNat Aj) default).Routines) 0 Bo:=lQ (fun k i n=>∀(Bo:Int),Ia L Aj a0 n Bo (i:Int)=Kd L Aj a0 k i Bo) hl hn (fun n i h Bo=>by simp only [Ia,Xv,Kd,C4 h,aN,aB,aC]) (fun n i x k h hx ih Bo=>by simp only [Ia,Xv,Kd,C5 h,Hp h,hx,Aw h hl,ih,aN,aB,aC])
def Kc(L:Nat)(a0:Ac):List Aa→Nat→Int→Option (Nat×Int×Int)
 | [],i,Al=>(some (1,(Al,(i:Int))))
 |x::k,i,Al=>(Option.bind (Ia L (i:Int) a0 L Al 0) fun o3=>
 (As0 o3.1 [(some (0,(o3.2.1,(i:Int)))),(Kc L a0 k (i+1) o3.2.1)]))
theorem Axr(L:Nat)(a0:Ac)(n:Nat)(hl:a0.Sites.length≤maxLen)(hn:a0.Sites.length < n):∀(Al:Int),H9 L a0 n Al 0=Kc L a0 a0.Sites 0 Al:=lQ (fun k i n=>∀(Al:Int),H9 L a0 n Al (i:Int)=Kc L a0 k i Al) hl hn (fun n i h Al=>by simp only [H9,Aed,Yn,S9,Kc,C4 h,aN,aB,aC]) (fun n i x k h hx ih Al=>by simp only [H9,Aed,Yn,S9,Kc,C5 h,Hp h,hx,Aw h hl,ih,aN,aB,aC])
def Nx(L:Nat)(p4_0:List Ae)(p4_1:Ac)(p4_2:ByteArray)(p4_3:Ae)(p4_4:List Ag):List Ae→Nat→Int→Option (Nat×Int×Int)
 | [],i,Ac1=>(some (1,(Ac1,(i:Int))))
 |x::k,i,Ac1=>(bif ((x.Name).toList == p4_3.Name.toList) then (some (0,((i:Int),(i:Int))))
 else (Nx L p4_0 p4_1 p4_2 p4_3 p4_4 k (i+1) Ac1))
theorem A05(L:Nat)(p4_0:List Ae)(p4_1:Ac)(p4_2:ByteArray)(p4_3:Ae)(p4_4:List Ag)(n:Nat)(hl:p4_0.length≤maxLen)(hn:p4_0.length < n):∀(Ac1:Int),Nh L p4_0 p4_1 p4_2 p4_3 p4_4 n Ac1 0=Nx L p4_0 p4_1 p4_2 p4_3 p4_4 p4_0 0 Ac1:=lQ (fun k i n=>∀(Ac1:Int),Nh L p4_0 p4_1 p4_2 p4_3 p4_4 n Ac1 (i:Int)=Nx L p4_0 p4_1 p4_2 p4_3 p4_4 k i Ac1) hl hn (fun n i h Ac1=>by simp only [Nh,Abi,Nx,C4 h,aN,aB,aC]) (fun n i x k h hx ih Ac1=>by simp only [Nh,Abi,Nx,C5 h,Hp h,hx,Aw h hl,ih,aN,aB,aC])
def Nw(L:Nat)(a1:List Ae)(a0:Ac):List Ae→Nat→Int→ByteArray→List Ag→Option (Nat×Int×Int×ByteArray×List Ag)
 | [],i,Cq,Df,C9=>(some (1,(Cq,(i:Int),Df,C9)))
 |x::k,i,Cq,Df,C9=>(Option.bind (Wi L a0.Params.length a0 Df x C9) fun o8=>
 (bif (decide (o8 < 0)) then (some (0,(5,(i:Int),(⟨#[]⟩:ByteArray),C9)))
 else (if ((0:Int)≤0) then (if (((i:Int):Int)≤(a1.length:Int)) then (if (((a1.length:Int):Int)≤(a1.length:Int)) then (Option.bind (Wj L ((a1.take (Int.toNat (i:Int))).drop 0) a0 Df x C9) fun o10=>
 (bif (decide (o10≥0)) then (some (0,(4,(i:Int),(⟨#[]⟩:ByteArray),C9)))
 else (if (0≤o8) then (if (o8 < (a0.Params.length:Int)) then (Option.bind (Acq L ((C9.getD (Int.toNat o8) default).Type_) (x.N)) fun r11=>
 (bif (!r11) then (some (0,(2,(i:Int),(⟨#[]⟩:ByteArray),C9)))
 else (if (0≤o8) then (if (o8 < (a0.Params.length:Int)) then (Nw L a1 a0 k (i+1) Cq Df (C9.set (Int.toNat o8) (⟨(C9.getD (Int.toNat o8) default).Name,(C9.getD (Int.toNat o8) default).Type_,x.N⟩:Ag))) else none) else none))) else none) else none))) else none) else none) else none)))
theorem A04(L:Nat)(a1:List Ae)(a0:Ac)(n:Nat)(hl:a1.length≤maxLen)(hn:a1.length < n):∀(Cq:Int) (Df:ByteArray) (C9:List Ag),It L a1 a0 n Cq 0 Df C9=Nw L a1 a0 a1 0 Cq Df C9:=lQ (fun k i n=>∀(Cq:Int) (Df:ByteArray) (C9:List Ag),It L a1 a0 n Cq (i:Int) Df C9=Nw L a1 a0 k i Cq Df C9) hl hn (fun n i h Cq Df C9=>by simp only [It,Aj4,w6,r0,w7,U5,Nw,C4 h,aN,aB,aC]) (fun n i x k h hx ih Cq Df C9=>by simp only [It,Aj4,w6,r0,w7,U5,Nw,C5 h,Hp h,hx,Aw h hl,ih,aN,aB,aC])
def Tx(L:Nat)(a0:List ByteArray)(a1:ByteArray):List ByteArray→Nat→Int→Option (Nat×Int×Int)
 | [],i,Ak=>(some (1,(Ak,(i:Int))))
 |x::k,i,Ak=>(bif (x.toList == a1.toList) then (some (0,((i:Int),(i:Int))))
 else (Tx L a0 a1 k (i+1) Ak))
theorem A70(L:Nat)(a0:List ByteArray)(a1:ByteArray)(n:Nat)(hl:a0.length≤maxLen)(hn:a0.length < n):∀(Ak:Int),Tj L a0 a1 n Ak 0=Tx L a0 a1 a0 0 Ak:=lQ (fun k i n=>∀(Ak:Int),Tj L a0 a1 n Ak (i:Int)=Tx L a0 a1 k i Ak) hl hn (fun n i h Ak=>by simp only [Tj,Ah3,Tx,C4 h,aN,aB,aC]) (fun n i x k h hx ih Ak=>by simp only [Tj,Ah3,Tx,C5 h,Hp h,hx,Aw h hl,ih,aN,aB,aC])
def Mo(L:Nat)(a0:Aa):List Ag→Nat→List ByteArray→Option (Nat×Int×List ByteArray)
 | [],i,Aag=>(some (0,((i:Int),Aag)))
 |x::k,i,Aag=>(if ((0:Int)≤0) then (if (0 < ((10:Nat):Int)) then (if ((Aag.length+ [x.Name].length)*16≤140737488355328) then (if (Aag.length+ [x.Name].length≤maxLen) then (if ((0:Int)≤0) then (if (0 < ((10:Nat):Int)) then (Mo L a0 k (i+1) (Aag++ [x.Name])) else none) else none) else none) else none) else none) else none)
theorem A4b(L:Nat)(a0:Aa)(n:Nat)(hl:a0.Vars.length≤maxLen)(hn:a0.Vars.length < n):∀(Aag:List ByteArray),Qg L a0 n 0 Aag=Mo L a0 a0.Vars 0 Aag:=lQ (fun k i n=>∀(Aag:List ByteArray),Qg L a0 n (i:Int) Aag=Mo L a0 k i Aag) hl hn (fun n i h Aag=>by simp only [Qg,Ad0,Mo,C4 h,aN,aB,aC]) (fun n i x k h hx ih Aag=>by simp only [Qg,Ad0,Mo,C5 h,Hp h,hx,Aw h hl,ih,aN,aB,aC])
def Mp(L:Nat)(a0:Aa)(o1:Nat×Int×List ByteArray):List Ah→Nat→List ByteArray→Option (Nat×Int×List ByteArray)
 | [],i,Aah=>(some (0,((i:Int),Aah)))
 |x::k,i,Aah=>(if ((0:Int)≤1) then (if (1 < ((10:Nat):Int)) then (if ((Aah.length+ [x.Name].length)*16≤140737488355328) then (if (Aah.length+ [x.Name].length≤maxLen) then (if ((0:Int)≤1) then (if (1 < ((10:Nat):Int)) then (Mp L a0 o1 k (i+1) (Aah++ [x.Name])) else none) else none) else none) else none) else none) else none)
theorem A4c(L:Nat)(a0:Aa)(o1:Nat×Int×List ByteArray)(n:Nat)(hl:a0.Resources.length≤maxLen)(hn:a0.Resources.length < n):∀(Aah:List ByteArray),Qh L a0 o1 n 0 Aah=Mp L a0 o1 a0.Resources 0 Aah:=lQ (fun k i n=>∀(Aah:List ByteArray),Qh L a0 o1 n (i:Int) Aah=Mp L a0 o1 k i Aah) hl hn (fun n i h Aah=>by simp only [Qh,Ad1,Mp,C4 h,aN,aB,aC]) (fun n i x k h hx ih Aah=>by simp only [Qh,Ad1,Mp,C5 h,Hp h,hx,Aw h hl,ih,aN,aB,aC])
def Mq(L:Nat)(a0:Aa)(o1:Nat×Int×List ByteArray)(o2:Nat×Int×List ByteArray):List Ar→Nat→List ByteArray→Option (Nat×Int×List ByteArray)
 | [],i,Fs=>(some (0,((i:Int),Fs)))
 |x::k,i,Fs=>(if ((0:Int)≤2) then (if (2 < ((10:Nat):Int)) then (if ((Fs.length+ [x.Name].length)*16≤140737488355328) then (if (Fs.length+ [x.Name].length≤maxLen) then (if ((0:Int)≤2) then (if (2 < ((10:Nat):Int)) then (Mq L a0 o1 o2 k (i+1) (Fs++ [x.Name])) else none) else none) else none) else none) else none) else none)
theorem A4d(L:Nat)(a0:Aa)(o1:Nat×Int×List ByteArray)(o2:Nat×Int×List ByteArray)(n:Nat)(hl:a0.Stores.length≤maxLen)(hn:a0.Stores.length < n):∀(Fs:List ByteArray),Qi L a0 o1 o2 n 0 Fs=Mq L a0 o1 o2 a0.Stores 0 Fs:=lQ (fun k i n=>∀(Fs:List ByteArray),Qi L a0 o1 o2 n (i:Int) Fs=Mq L a0 o1 o2 k i Fs) hl hn (fun n i h Fs=>by simp only [Qi,Ad2,Mq,C4 h,aN,aB,aC]) (fun n i x k h hx ih Fs=>by simp only [Qi,Ad2,Mq,C5 h,Hp h,hx,Aw h hl,ih,aN,aB,aC])
def Mr(L:Nat)(a0:Aa)(o1:Nat×Int×List ByteArray)(o2:Nat×Int×List ByteArray)(o3:Nat×Int×List ByteArray):List Ax→Nat→List ByteArray→Option (Nat×Int×List ByteArray)
 | [],i,Fv=>(some (0,((i:Int),Fv)))
 |x::k,i,Fv=>(if ((0:Int)≤3) then (if (3 < ((10:Nat):Int)) then (if ((Fv.length+ [x.Name].length)*16≤140737488355328) then (if (Fv.length+ [x.Name].length≤maxLen) then (if ((0:Int)≤3) then (if (3 < ((10:Nat):Int)) then (Mr L a0 o1 o2 o3 k (i+1) (Fv++ [x.Name])) else none) else none) else none) else none) else none) else none)
theorem A4e(L:Nat)(a0:Aa)(o1:Nat×Int×List ByteArray)(o2:Nat×Int×List ByteArray)(o3:Nat×Int×List ByteArray)(n:Nat)(hl:a0.Belts.length≤maxLen)(hn:a0.Belts.length < n):∀(Fv:List ByteArray),Qj L a0 o1 o2 o3 n 0 Fv=Mr L a0 o1 o2 o3 a0.Belts 0 Fv:=lQ (fun k i n=>∀(Fv:List ByteArray),Qj L a0 o1 o2 o3 n (i:Int) Fv=Mr L a0 o1 o2 o3 k i Fv) hl hn (fun n i h Fv=>by simp only [Qj,Ad3,Mr,C4 h,aN,aB,aC]) (fun n i x k h hx ih Fv=>by simp only [Qj,Ad3,Mr,C5 h,Hp h,hx,Aw h hl,ih,aN,aB,aC])
def Ms(L:Nat)(a0:Aa)(o1:Nat×Int×List ByteArray)(o2:Nat×Int×List ByteArray)(o3:Nat×Int×List ByteArray)(o4:Nat×Int×List ByteArray):List Am→Nat→List ByteArray→Option (Nat×Int×List ByteArray)
 | [],i,Aai=>(some (0,((i:Int),Aai)))
 |x::k,i,Aai=>(if ((0:Int)≤9) then (if (9 < ((10:Nat):Int)) then (if ((Aai.length+ [x.Name].length)*16≤140737488355328) then (if (Aai.length+ [x.Name].length≤maxLen) then (if ((0:Int)≤9) then (if (9 < ((10:Nat):Int)) then (Ms L a0 o1 o2 o3 o4 k (i+1) (Aai++ [x.Name])) else none) else none) else none) else none) else none) else none)
theorem A4f(L:Nat)(a0:Aa)(o1:Nat×Int×List ByteArray)(o2:Nat×Int×List ByteArray)(o3:Nat×Int×List ByteArray)(o4:Nat×Int×List ByteArray)(n:Nat)(hl:a0.Routines.length≤maxLen)(hn:a0.Routines.length < n):∀(Aai:List ByteArray),Qk L a0 o1 o2 o3 o4 n 0 Aai=Ms L a0 o1 o2 o3 o4 a0.Routines 0 Aai:=lQ (fun k i n=>∀(Aai:List ByteArray),Qk L a0 o1 o2 o3 o4 n (i:Int) Aai=Ms L a0 o1 o2 o3 o4 k i Aai) hl hn (fun n i h Aai=>by simp only [Qk,Ad4,Ms,C4 h,aN,aB,aC]) (fun n i x k h hx ih Aai=>by simp only [Qk,Ad4,Ms,C5 h,Hp h,hx,Aw h hl,ih,aN,aB,aC])
def Ib(L:Nat)(a0:Ah):List F1→Nat→Int→Option (Nat×Int×Int)
 | [],i,Al=>(some (1,(Al,(i:Int))))
 |x::k,i,Al=>(Option.bind (Dp L (x.At) 0 (B7 (a0.Cycle - 1))) fun r3=>
 (Option.bind (bif (!r3) then (some true)
 else (Option.bind (Dp L (x.Units) 0 1000) fun r5=>
 (some (!r5)))) fun b4=>
 (bif b4 then (some (0,(2,(i:Int))))
 else (bif (decide ((i:Int) > 0)) then (if (0≤(B7 ((i:Int) - 1))) then (if ((B7 ((i:Int) - 1)) < (a0.Shift.length:Int)) then (bif (decide (x.At≤(a0.Shift.getD (Int.toNat (B7 ((i:Int) - 1))) default).At)) then (some (0,(12,(i:Int))))
 else (Ib L a0 k (i+1) Al)) else none) else none)
 else (Ib L a0 k (i+1) Al)))))
theorem Axo(L:Nat)(a0:Ah)(n:Nat)(hl:a0.Shift.length≤maxLen)(hn:a0.Shift.length < n):∀(Al:Int),J0 L a0 n Al 0=Ib L a0 a0.Shift 0 Al:=lQ (fun k i n=>∀(Al:Int),J0 L a0 n Al (i:Int)=Ib L a0 k i Al) hl hn (fun n i h Al=>by simp only [J0,Xs,Ib,C4 h,aN,aB,aC]) (fun n i x k h hx ih Al=>by simp only [J0,Xs,Ib,C5 h,Hp h,hx,Aw h hl,ih,aN,aB,aC])
def J4(L:Nat)(a0:List Int)(a1:List Int):List Int→Nat→Bool→Option (Nat×Bool×Int)
 | [],i,Ak=>(some (1,(Ak,(i:Int))))
 |x::k,i,Ak=>(if ((i:Int) < (a1.length:Int)) then (bif (x != (a1.getD (Int.toNat (i:Int)) default)) then (some (0,(false,(i:Int))))
 else (J4 L a0 a1 k (i+1) Ak)) else none)
theorem Axh(L:Nat)(a0:List Int)(a1:List Int)(n:Nat)(hl:a0.length≤maxLen)(hn:a0.length < n):∀(Ak:Bool),Jt L a0 a1 n Ak 0=J4 L a0 a1 a0 0 Ak:=lQ (fun k i n=>∀(Ak:Bool),Jt L a0 a1 n Ak (i:Int)=J4 L a0 a1 k i Ak) hl hn (fun n i h Ak=>by simp only [Jt,Xl,J4,C4 h,aN,aB,aC]) (fun n i x k h hx ih Ak=>by simp only [Jt,Xl,J4,C5 h,Hp h,hx,Aw h hl,ih,aN,aB,aC])
def Qs(L:Nat)(a0:Bn):List Int→Nat→Int→Option (Nat×Int×Int)
 | [],i,Al=>(some (1,(Al,(i:Int))))
 |x::k,i,Al=>(Option.bind (Gn L x 0 1000000000) fun r1=>
 (Option.bind (bif (!r1) then (some true)
 else (if (0≤(i:Int)) then (if ((i:Int) < (a0.Weights.length:Int)) then (Option.bind (Gn L (a0.Weights.getD (Int.toNat (i:Int)) default) 1 1000) fun r3=>
 (some (!r3))) else none) else none)) fun b2=>
 (bif b2 then (some (0,(2,(i:Int))))
 else (Qs L a0 k (i+1) Al))))
theorem A34(L:Nat)(a0:Bn)(n:Nat)(hl:a0.Values.length≤maxLen)(hn:a0.Values.length < n):∀(Al:Int),P8 L a0 n Al 0=Qs L a0 a0.Values 0 Al:=lQ (fun k i n=>∀(Al:Int),P8 L a0 n Al (i:Int)=Qs L a0 k i Al) hl hn (fun n i h Al=>by simp only [P8,Adt,Qs,C4 h,aN,aB,aC]) (fun n i x k h hx ih Al=>by simp only [P8,Adt,Qs,C5 h,Hp h,hx,Aw h hl,ih,aN,aB,aC])
def Mm(E6:(List Ad)→Option Int)(L:Nat)(a0:List Ad):List Ad→Nat→Int→Option (Nat×Int×Int)
 | [],i,Ak=>(some (0,(Ak,(i:Int))))
 |x::k,i,Ak=>(Option.bind (E6 (x.Body)) fun r1=>
 (Option.bind (E6 (x.Else)) fun r2=>
 (Mm E6 L a0 k (i+1) (B7 ((B7 ((B7 (Ak+1))+r1))+r2)))))
theorem A37(E6:(List Ad)→Option Int)(L:Nat)(a0:List Ad)(n:Nat)(hl:a0.length≤maxLen)(hn:a0.length < n):∀(Ak:Int),Qc E6 L a0 n Ak 0=Mm E6 L a0 a0 0 Ak:=lQ (fun k i n=>∀(Ak:Int),Qc E6 L a0 n Ak (i:Int)=Mm E6 L a0 k i Ak) hl hn (fun n i h Ak=>by simp only [Qc,Adw,Mm,C4 h,aN,aB,aC]) (fun n i x k h hx ih Ak=>by simp only [Qc,Adw,Mm,C5 h,Hp h,hx,Aw h hl,ih,aN,aB,aC])
def Mn(E7:(List Ad)→Option Int)(L:Nat)(a0:List Ad):List Ad→Nat→Int→Option (Nat×Int×Int)
 | [],i,Ak=>(some (0,(Ak,(i:Int))))
 |x::k,i,Ak=>(Option.bind (E7 (x.Body)) fun r1=>
 (Option.bind (E7 (x.Else)) fun r2=>
 (Mn E7 L a0 k (i+1) (if (B7 (1+r2)) > (if (B7 (1+r1)) > Ak then (B7 (1+r1)) else Ak) then (B7 (1+r2)) else (if (B7 (1+r1)) > Ak then (B7 (1+r1)) else Ak)))))
theorem A38(E7:(List Ad)→Option Int)(L:Nat)(a0:List Ad)(n:Nat)(hl:a0.length≤maxLen)(hn:a0.length < n):∀(Ak:Int),Qd E7 L a0 n Ak 0=Mn E7 L a0 a0 0 Ak:=lQ (fun k i n=>∀(Ak:Int),Qd E7 L a0 n Ak (i:Int)=Mn E7 L a0 k i Ak) hl hn (fun n i h Ak=>by simp only [Qd,Adx,Mn,C4 h,aN,aB,aC]) (fun n i x k h hx ih Ak=>by simp only [Qd,Adx,Mn,C5 h,Hp h,hx,Aw h hl,ih,aN,aB,aC])
def Qt(Gd:Ab→Option Int)(L:Nat)(a0:Ab):List Ab→Nat→Int→Option (Nat×Int×Int)
 | [],i,Ai=>(some (0,(Ai,(i:Int))))
 |x::k,i,Ai=>(Option.bind (Gd x) fun r1=>
 (Qt Gd L a0 k (i+1) (if r1 > Ai then r1 else Ai)))
theorem A35(Gd:Ab→Option Int)(L:Nat)(a0:Ab)(n:Nat)(hl:a0.Kids.length≤maxLen)(hn:a0.Kids.length < n):∀(Ai:Int),Qa Gd L a0 n Ai 0=Qt Gd L a0 a0.Kids 0 Ai:=lQ (fun k i n=>∀(Ai:Int),Qa Gd L a0 n Ai (i:Int)=Qt Gd L a0 k i Ai) hl hn (fun n i h Ai=>by simp only [Qa,Adu,Qt,C4 h,aN,aB,aC]) (fun n i x k h hx ih Ai=>by simp only [Qa,Adu,Qt,C5 h,Hp h,hx,Aw h hl,ih,aN,aB,aC])
def Pr(Bg:Ab→Bool→Option Int)(L:Nat)(a1:Bool)(a0:Ab):List Ab→Nat→Int→Option (Nat×Int×Int)
 | [],i,Ai=>(some (1,(Ai,(i:Int))))
 |x::k,i,Ai=>(Option.bind (Bg x a1) fun r22=>
 (bif (r22 != 0) then (some (0,(r22,(i:Int))))
 else (Pr Bg L a1 a0 k (i+1) Ai)))
theorem A71(Bg:Ab→Bool→Option Int)(L:Nat)(a1:Bool)(a0:Ab)(n:Nat)(hl:a0.Kids.length≤maxLen)(hn:a0.Kids.length < n):∀(Ai:Int),O3 Bg L a1 a0 n Ai 0=Pr Bg L a1 a0 a0.Kids 0 Ai:=lQ (fun k i n=>∀(Ai:Int),O3 Bg L a1 a0 n Ai (i:Int)=Pr Bg L a1 a0 k i Ai) hl hn (fun n i h Ai=>by simp only [O3,Ah4,Pr,C4 h,aN,aB,aC]) (fun n i x k h hx ih Ai=>by simp only [O3,Ah4,Pr,C5 h,Hp h,hx,Aw h hl,ih,aN,aB,aC])
def Jm(Dz:(List Ad)→Option Int)(L:Nat)(a0:List Ad):List Ad→Nat→Int→Option (Nat×Int×Int)
 | [],i,Ai=>(some (1,(Ai,(i:Int))))
 |x::k,i,Ai=>(Option.bind (Ao9 L x) fun r1=>
 (bif (r1 == 0) then (Option.bind (Dz (x.Body)) fun r2=>
 (bif (r2 == 0) then (Option.bind (Dz (x.Else)) fun r3=>
 (bif (r3 != 0) then (some (0,(r3,(i:Int))))
 else (Jm Dz L a0 k (i+1) Ai)))
 else (bif (r2 != 0) then (some (0,(r2,(i:Int))))
 else (Jm Dz L a0 k (i+1) Ai))))
 else (bif (r1 == 0) then (Option.bind (Dz (x.Else)) fun r4=>
 (bif (r4 != 0) then (some (0,(r4,(i:Int))))
 else (Jm Dz L a0 k (i+1) Ai)))
 else (bif (r1 != 0) then (some (0,(r1,(i:Int))))
 else (Jm Dz L a0 k (i+1) Ai)))))
theorem A75(Dz:(List Ad)→Option Int)(L:Nat)(a0:List Ad)(n:Nat)(hl:a0.length≤maxLen)(hn:a0.length < n):∀(Ai:Int),Tl Dz L a0 n Ai 0=Jm Dz L a0 a0 0 Ai:=lQ (fun k i n=>∀(Ai:Int),Tl Dz L a0 n Ai (i:Int)=Jm Dz L a0 k i Ai) hl hn (fun n i h Ai=>by simp only [Tl,Ah7,Jm,C4 h,aN,aB,aC]) (fun n i x k h hx ih Ai=>by simp only [Tl,Ah7,Jm,C5 h,Hp h,hx,Aw h hl,ih,aN,aB,aC])
def Lp(L:Nat)(a0:Am):List Ap→Nat→Int→List ByteArray→Option (Nat×Int×List ByteArray×Int)
 | [],i,Al,Ai=>(some (1,(Al,Ai,(i:Int))))
 |x::k,i,Al,Ai=>(Option.bind (Oz L (x.Name) Ai) fun r2=>
 (Option.bind (Yy L (x.Type_)) fun r3=>
 (Option.bind (B8 L r3 1) fun r4=>
 (Option.bind (C8 L r2 r4) fun r5=>
 (bif (r5 != 0) then (some (0,(r5,Ai,(i:Int))))
 else (if ((Ai.length+ [x.Name].length)*16≤140737488355328) then (if (Ai.length+ [x.Name].length≤maxLen) then (Lp L a0 k (i+1) Al (Ai++ [x.Name])) else none) else none))))))
theorem Aza(L:Nat)(a0:Am)(n:Nat)(hl:(a0.Params++a0.Locals).length≤maxLen)(hn:(a0.Params++a0.Locals).length < n):∀(Al:Int) (Ai:List ByteArray),Lb L a0 n Al Ai 0=Lp L a0 (a0.Params++a0.Locals) 0 Al Ai:=lQ (fun k i n=>∀(Al:Int) (Ai:List ByteArray),Lb L a0 n Al Ai (i:Int)=Lp L a0 k i Al Ai) hl hn (fun n i h Al Ai=>by simp only [Lb,j7,Lp,C4 h,aN,aB,aC]) (fun n i x k h hx ih Al Ai=>by simp only [Lb,j7,Lp,C5 h,Hp h,hx,Aw h hl,ih,aN,aB,aC])
def Mu(L:Nat)(a0:Aa)(r1:Int)(a1:Br):List Ap→Nat→Int→Option (Nat×Int×Int)
 | [],i,Al=>(some (1,(Al,(i:Int))))
 |x::k,i,Al=>(if ((i:Int) < (a1.Args.length:Int)) then (Option.bind (Tf L (x.Type_) (a1.Args.getD (Int.toNat (i:Int)) default)) fun r2=>
 (bif (!r2) then (some (0,(2,(i:Int))))
 else (Mu L a0 r1 a1 k (i+1) Al))) else none)
theorem A4h(L:Nat)(a0:Aa)(r1:Int)(a1:Br)(n:Nat)(hl:((a0.Routines.getD (Int.toNat r1) default).Params).length≤maxLen)(hn:((a0.Routines.getD (Int.toNat r1) default).Params).length < n):∀(Al:Int),Ql L a0 r1 a1 n Al 0=Mu L a0 r1 a1 ((a0.Routines.getD (Int.toNat r1) default).Params) 0 Al:=lQ (fun k i n=>∀(Al:Int),Ql L a0 r1 a1 n Al (i:Int)=Mu L a0 r1 a1 k i Al) hl hn (fun n i h Al=>by simp only [Ql,Ad6,Mu,C4 h,aN,aB,aC]) (fun n i x k h hx ih Al=>by simp only [Ql,Ad6,Mu,C5 h,Hp h,hx,Aw h hl,ih,aN,aB,aC])
def W7(L:Nat)(a1:ByteArray)(r1:List (List ByteArray))(a0:Aa):List ((List ByteArray))→Nat→ByteArray→Option (Nat×ByteArray×Int)
 | [],i,Ai=>(some (1,(Ai,(i:Int))))
 |x::k,i,Ai=>(Option.bind (Nc L x a1) fun r2=>
 (bif (decide (r2≥0)) then (if ((i:Int) < (([(⟨#[118,97,114]⟩:ByteArray),(⟨#[114,101,115,111,117,114,99,101]⟩:ByteArray),(⟨#[115,116,111,114,101]⟩:ByteArray),(⟨#[98,101,108,116]⟩:ByteArray),(⟨#[113,117,101,117,101]⟩:ByteArray),(⟨#[115,116,114,101,97,109]⟩:ByteArray),(⟨#[116,97,108,108,121]⟩:ByteArray),(⟨#[108,101,118,101,108]⟩:ByteArray),(⟨#[99,111,117,110,116]⟩:ByteArray),(⟨#[114,111,117,116,105,110,101]⟩:ByteArray)].length:Nat):Int)) then (some (0,(([(⟨#[118,97,114]⟩:ByteArray),(⟨#[114,101,115,111,117,114,99,101]⟩:ByteArray),(⟨#[115,116,111,114,101]⟩:ByteArray),(⟨#[98,101,108,116]⟩:ByteArray),(⟨#[113,117,101,117,101]⟩:ByteArray),(⟨#[115,116,114,101,97,109]⟩:ByteArray),(⟨#[116,97,108,108,121]⟩:ByteArray),(⟨#[108,101,118,101,108]⟩:ByteArray),(⟨#[99,111,117,110,116]⟩:ByteArray),(⟨#[114,111,117,116,105,110,101]⟩:ByteArray)].getD (Int.toNat (i:Int)) default),(i:Int)))) else none)
 else (W7 L a1 r1 a0 k (i+1) Ai)))
theorem A76(L:Nat)(a1:ByteArray)(r1:List (List ByteArray))(a0:Aa)(n:Nat)(hl:r1.length≤maxLen)(hn:r1.length < n):∀(Ai:ByteArray),Tm L a1 r1 a0 n Ai 0=W7 L a1 r1 a0 r1 0 Ai:=lQ (fun k i n=>∀(Ai:ByteArray),Tm L a1 r1 a0 n Ai (i:Int)=W7 L a1 r1 a0 k i Ai) hl hn (fun n i h Ai=>by simp only [Tm,Ah8,W7,C4 h,aN,aB,aC]) (fun n i x k h hx ih Ai=>by simp only [Tm,Ah8,W7,C5 h,Hp h,hx,Aw h hl,ih,aN,aB,aC])
def Sx(L:Nat)(a0:Aa)(a1:A9):List Ay→Nat→Int→Option (Nat×Int×Int)
 | [],i,Ai=>(some (0,(Ai,(i:Int))))
 |x::k,i,Ai=>(Option.bind (Alx L a0 x) fun r6=>
 (Option.bind (C8 L Ai r6) fun r7=>
 (Sx L a0 a1 k (i+1) r7)))
theorem A94(L:Nat)(a0:Aa)(a1:A9)(n:Nat)(hl:a1.Terms.length≤maxLen)(hn:a1.Terms.length < n):∀(Ai:Int),V3 L a0 a1 n Ai 0=Sx L a0 a1 a1.Terms 0 Ai:=lQ (fun k i n=>∀(Ai:Int),V3 L a0 a1 n Ai (i:Int)=Sx L a0 a1 k i Ai) hl hn (fun n i h Ai=>by simp only [V3,Ale,Sx,C4 h,aN,aB,aC]) (fun n i x k h hx ih Ai=>by simp only [V3,Ale,Sx,C5 h,Hp h,hx,Aw h hl,ih,aN,aB,aC])
def Jn(L:Nat)(r1:List (List ByteArray))(a0:Aa):List ((List ByteArray))→Nat→Int→List ByteArray→Option (Nat×Int×List ByteArray×Int)
 | [],i,Al,Ai=>(some (1,(Al,Ai,(i:Int))))
 |x::k,i,Al,Ai=>(Option.bind (bif (decide ((x.length:Int) > 32)) then (some true)
 else (bif ((i:Int) == 9) then (if (0≤(i:Int)) then (if ((i:Int) < (r1.length:Int)) then (some (decide ((x.length:Int) > 16))) else none) else none)
 else (some false))) fun b2=>
 (bif b2 then (some (0,(6,Ai,(i:Int))))
 else (Option.bind (Pq L r1 (i:Int) a0 L Al Ai 0) fun o6=>
 (As0 o6.1 [(some (0,(o6.2.1,o6.2.2.1,(i:Int)))),(Jn L r1 a0 k (i+1) o6.2.1 o6.2.2.1)]))))
theorem A8b(L:Nat)(r1:List (List ByteArray))(a0:Aa)(n:Nat)(hl:r1.length≤maxLen)(hn:r1.length < n):∀(Al:Int) (Ai:List ByteArray),Ph L r1 a0 n Al Ai 0=Jn L r1 a0 r1 0 Al Ai:=lQ (fun k i n=>∀(Al:Int) (Ai:List ByteArray),Ph L r1 a0 n Al Ai (i:Int)=Jn L r1 a0 k i Al Ai) hl hn (fun n i h Al Ai=>by simp only [Ph,Aon,Aiv,Aa4,Jn,C4 h,aN,aB,aC]) (fun n i x k h hx ih Al Ai=>by simp only [Ph,Aon,Aiv,Aa4,Jn,C5 h,Hp h,hx,Aw h hl,ih,aN,aB,aC])
def W8(L:Nat)(a0:Aa):List Br→Nat→Int→Option (Nat×Int×Int)
 | [],i,D6=>(some (1,(D6,(i:Int))))
 |x::k,i,D6=>(Option.bind (Acl L a0 x) fun r8=>
 (bif (r8 != 0) then (some (0,(r8,(i:Int))))
 else (W8 L a0 k (i+1) D6)))
theorem A8c(L:Nat)(a0:Aa)(n:Nat)(hl:a0.Starts.length≤maxLen)(hn:a0.Starts.length < n):∀(D6:Int),Ts L a0 n D6 0=W8 L a0 a0.Starts 0 D6:=lQ (fun k i n=>∀(D6:Int),Ts L a0 n D6 (i:Int)=W8 L a0 k i D6) hl hn (fun n i h D6=>by simp only [Ts,Aie,W8,C4 h,aN,aB,aC]) (fun n i x k h hx ih D6=>by simp only [Ts,Aie,W8,C5 h,Hp h,hx,Aw h hl,ih,aN,aB,aC])
def T5(L:Nat)(a0:Aa):List A9→Nat→Int→List ByteArray→Option (Nat×Int×List ByteArray×Int)
 | [],i,He,Cq=>(some (1,(He,Cq,(i:Int))))
 |x::k,i,He,Cq=>(Option.bind (Apa L a0 x Cq) fun r10=>
 (bif (r10 != 0) then (some (0,(r10,Cq,(i:Int))))
 else (if ((Cq.length+ [x.Name].length)*16≤140737488355328) then (if (Cq.length+ [x.Name].length≤maxLen) then (T5 L a0 k (i+1) He (Cq++ [x.Name])) else none) else none)))
theorem A8d(L:Nat)(a0:Aa)(n:Nat)(hl:a0.Laws.length≤maxLen)(hn:a0.Laws.length < n):∀(He:Int) (Cq:List ByteArray),Tt L a0 n He Cq 0=T5 L a0 a0.Laws 0 He Cq:=lQ (fun k i n=>∀(He:Int) (Cq:List ByteArray),Tt L a0 n He Cq (i:Int)=T5 L a0 k i He Cq) hl hn (fun n i h He Cq=>by simp only [Tt,Aif,T5,C4 h,aN,aB,aC]) (fun n i x k h hx ih He Cq=>by simp only [Tt,Aif,T5,C5 h,Hp h,hx,Aw h hl,ih,aN,aB,aC])
def T4(L:Nat)(a1:ByteArray)(a0:Ac):List Aa→Nat→Int→Option (Nat×Int×Int)
 | [],i,Ai=>(some (1,(Ai,(i:Int))))
 |x::k,i,Ai=>(bif ((x.Name).toList == a1.toList) then (some (0,((i:Int),(i:Int))))
 else (T4 L a1 a0 k (i+1) Ai))
theorem A8a(L:Nat)(a1:ByteArray)(a0:Ac)(n:Nat)(hl:a0.Sites.length≤maxLen)(hn:a0.Sites.length < n):∀(Ai:Int),Tr L a1 a0 n Ai 0=T4 L a1 a0 a0.Sites 0 Ai:=lQ (fun k i n=>∀(Ai:Int),Tr L a1 a0 n Ai (i:Int)=T4 L a1 a0 k i Ai) hl hn (fun n i h Ai=>by simp only [Tr,Aic,T4,C4 h,aN,aB,aC]) (fun n i x k h hx ih Ai=>by simp only [Tr,Aic,T4,C5 h,Hp h,hx,Aw h hl,ih,aN,aB,aC])
def Mt(L:Nat)(a0:Ac):List Bk→Nat→Int→Option (Nat×Int×Int)
 | [],i,Al=>(some (1,(Al,(i:Int))))
 |x::k,i,Al=>(Option.bind (Yx L a0 (x.From)) fun r1=>
 (Option.bind (bif (decide (r1 < 0)) then (some true)
 else (Option.bind (Yx L a0 (x.To)) fun r3=>
 (some (decide (r3 < 0))))) fun b2=>
 (bif b2 then (some (0,(5,(i:Int))))
 else (bif ((x.From).toList == (x.To).toList) then (some (0,(1,(i:Int))))
 else (Option.bind (Dp L (x.Delay) 1 1000000000) fun r4=>
 (bif (!r4) then (some (0,(2,(i:Int))))
 else (Option.bind (Mh L (i:Int) a0 L Al 0) fun o5=>
 (As0 o5.1 [(some (0,(o5.2.1,(i:Int)))),(Mt L a0 k (i+1) o5.2.1)]))))))))
theorem A4g(L:Nat)(a0:Ac)(n:Nat)(hl:a0.Links.length≤maxLen)(hn:a0.Links.length < n):∀(Al:Int),Mg L a0 n Al 0=Mt L a0 a0.Links 0 Al:=lQ (fun k i n=>∀(Al:Int),Mg L a0 n Al (i:Int)=Mt L a0 k i Al) hl hn (fun n i h Al=>by simp only [Mg,Amk,Afg,Zv,Mt,C4 h,aN,aB,aC]) (fun n i x k h hx ih Al=>by simp only [Mg,Amk,Afg,Zv,Mt,C5 h,Hp h,hx,Aw h hl,ih,aN,aB,aC])
def Qv(L:Nat)(a0:Ac):List Ag→Nat→Int→Int→List ByteArray→Option (Nat×Int×Int×List ByteArray×Int)
 | [],i,Al,Ai,Ak=>(some (1,(Al,Ai,Ak,(i:Int))))
 |x::k,i,Al,Ai,Ak=>(Option.bind (Ai2 L x Ak) fun r4=>
 (bif (r4 != 0) then (some (0,(r4,r4,Ak,(i:Int))))
 else (if ((Ak.length+ [x.Name].length)*16≤140737488355328) then (if (Ak.length+ [x.Name].length≤maxLen) then (Qv L a0 k (i+1) Al r4 (Ak++ [x.Name])) else none) else none)))
theorem A39(L:Nat)(a0:Ac)(n:Nat)(hl:a0.Params.length≤maxLen)(hn:a0.Params.length < n):∀(Al:Int) (Ai:Int) (Ak:List ByteArray),Qe L a0 n Al Ai Ak 0=Qv L a0 a0.Params 0 Al Ai Ak:=lQ (fun k i n=>∀(Al:Int) (Ai:Int) (Ak:List ByteArray),Qe L a0 n Al Ai Ak (i:Int)=Qv L a0 k i Al Ai Ak) hl hn (fun n i h Al Ai Ak=>by simp only [Qe,Ady,Qv,C4 h,aN,aB,aC]) (fun n i x k h hx ih Al Ai Ak=>by simp only [Qe,Ady,Qv,C5 h,Hp h,hx,Aw h hl,ih,aN,aB,aC])
def Qw(L:Nat)(a0:Ac):List Aa→Nat→Int→Int→List ByteArray→Option (Nat×Int×Int×List ByteArray×Int)
 | [],i,Bo,Bt,Gh=>(some (1,(Bo,Bt,Gh,(i:Int))))
 |x::k,i,Bo,Bt,Gh=>(Option.bind (Oz L (x.Name) Gh) fun r9=>
 (Option.bind (Alw L x) fun r10=>
 (Option.bind (C8 L r9 r10) fun r11=>
 (bif (r11 != 0) then (some (0,(r11,r11,Gh,(i:Int))))
 else (if ((Gh.length+ [x.Name].length)*16≤140737488355328) then (if (Gh.length+ [x.Name].length≤maxLen) then (Qw L a0 k (i+1) Bo r11 (Gh++ [x.Name])) else none) else none)))))
theorem A4a(L:Nat)(a0:Ac)(n:Nat)(hl:a0.Sites.length≤maxLen)(hn:a0.Sites.length < n):∀(Bo:Int) (Bt:Int) (Gh:List ByteArray),Qf L a0 n Bo Bt Gh 0=Qw L a0 a0.Sites 0 Bo Bt Gh:=lQ (fun k i n=>∀(Bo:Int) (Bt:Int) (Gh:List ByteArray),Qf L a0 n Bo Bt Gh (i:Int)=Qw L a0 k i Bo Bt Gh) hl hn (fun n i h Bo Bt Gh=>by simp only [Qf,Adz,Qw,C4 h,aN,aB,aC]) (fun n i x k h hx ih Bo Bt Gh=>by simp only [Qf,Adz,Qw,C5 h,Hp h,hx,Aw h hl,ih,aN,aB,aC])
def Nv(L:Nat)(a0:List Ag)(a1:ByteArray):List Ag→Nat→Int→Bool→Option (Nat×Int×Bool×Int)
 | [],i,Ak,Aj=>(some (1,(Ak,Aj,(i:Int))))
 |x::k,i,Ak,Aj=>(bif ((x.Name).toList == a1.toList) then (some (0,((x.Type_),true,(i:Int))))
 else (Nv L a0 a1 k (i+1) Ak Aj))
theorem A03(L:Nat)(a0:List Ag)(a1:ByteArray)(n:Nat)(hl:a0.length≤maxLen)(hn:a0.length < n):∀(Ak:Int) (Aj:Bool),Nf L a0 a1 n Ak Aj 0=Nv L a0 a1 a0 0 Ak Aj:=lQ (fun k i n=>∀(Ak:Int) (Aj:Bool),Nf L a0 a1 n Ak Aj (i:Int)=Nv L a0 a1 k i Ak Aj) hl hn (fun n i h Ak Aj=>by simp only [Nf,Abg,Nv,C4 h,aN,aB,aC]) (fun n i x k h hx ih Ak Aj=>by simp only [Nf,Abg,Nv,C5 h,Hp h,hx,Aw h hl,ih,aN,aB,aC])
def Mw(Gc:Aq→Ab→Option (Int×Int))(L:Nat)(a0:Aq)(a1:Ab):List Ab→Nat→Int→Int→List Int→Option (Nat×Int×Int×List Int×Int)
 | [],i,Al,Ai,Ak=>(some (1,(Al,Ai,Ak,(i:Int))))
 |x::k,i,Al,Ai,Ak=>(Option.bind (Gc a0 x) fun r1=>
 (bif (r1.2 != 0) then (some (0,(0,r1.2,Ak,(i:Int))))
 else (if ((Ak.length+ [r1.1].length)*8≤140737488355328) then (if (Ak.length+ [r1.1].length≤maxLen) then (Mw Gc L a0 a1 k (i+1) Al Ai (Ak++ [r1.1])) else none) else none)))
theorem A4k(Gc:Aq→Ab→Option (Int×Int))(L:Nat)(a0:Aq)(a1:Ab)(n:Nat)(hl:a1.Kids.length≤maxLen)(hn:a1.Kids.length < n):∀(Al:Int) (Ai:Int) (Ak:List Int),Qo Gc L a0 a1 n Al Ai Ak 0=Mw Gc L a0 a1 a1.Kids 0 Al Ai Ak:=lQ (fun k i n=>∀(Al:Int) (Ai:Int) (Ak:List Int),Qo Gc L a0 a1 n Al Ai Ak (i:Int)=Mw Gc L a0 a1 k i Al Ai Ak) hl hn (fun n i h Al Ai Ak=>by simp only [Qo,Ad9,Mw,C4 h,aN,aB,aC]) (fun n i x k h hx ih Al Ai Ak=>by simp only [Qo,Ad9,Mw,C5 h,Hp h,hx,Aw h hl,ih,aN,aB,aC])
def T6(L:Nat)(a2:List Ap)(a0:Aq)(a1:Ad):List Ap→Nat→Int→Option (Nat×Int×Int)
 | [],i,Ai=>(some (1,(Ai,(i:Int))))
 |x::k,i,Ai=>(if ((i:Int) < (a1.Args.length:Int)) then (Option.bind (I8 L a0 (a1.Args.getD (Int.toNat (i:Int)) default) (x.Type_) (x.Type_)) fun r1=>
 (bif (r1 != 0) then (some (0,(r1,(i:Int))))
 else (T6 L a2 a0 a1 k (i+1) Ai))) else none)
theorem A8e(L:Nat)(a2:List Ap)(a0:Aq)(a1:Ad)(n:Nat)(hl:a2.length≤maxLen)(hn:a2.length < n):∀(Ai:Int),Tu L a2 a0 a1 n Ai 0=T6 L a2 a0 a1 a2 0 Ai:=lQ (fun k i n=>∀(Ai:Int),Tu L a2 a0 a1 n Ai (i:Int)=T6 L a2 a0 a1 k i Ai) hl hn (fun n i h Ai=>by simp only [Tu,Aig,T6,C4 h,aN,aB,aC]) (fun n i x k h hx ih Ai=>by simp only [Tu,Aig,T6,C5 h,Hp h,hx,Aw h hl,ih,aN,aB,aC])
def T1(L:Nat)(a1:ByteArray)(a2:ByteArray)(a0:Ac):List Bk→Nat→Int→Bool→Option (Nat×Int×Bool×Int)
 | [],i,Ak,Aj=>(some (1,(Ak,Aj,(i:Int))))
 |x::k,i,Ak,Aj=>(Option.bind (bif ((x.From).toList == a1.toList) then (if (0≤(i:Int)) then (if ((i:Int) < (a0.Links.length:Int)) then (some ((x.To).toList == a2.toList)) else none) else none)
 else (some false)) fun b1=>
 (bif b1 then (some (0,((x.Delay),true,(i:Int))))
 else (T1 L a1 a2 a0 k (i+1) Ak Aj)))
theorem A77(L:Nat)(a1:ByteArray)(a2:ByteArray)(a0:Ac)(n:Nat)(hl:a0.Links.length≤maxLen)(hn:a0.Links.length < n):∀(Ak:Int) (Aj:Bool),Tn L a1 a2 a0 n Ak Aj 0=T1 L a1 a2 a0 a0.Links 0 Ak Aj:=lQ (fun k i n=>∀(Ak:Int) (Aj:Bool),Tn L a1 a2 a0 n Ak Aj (i:Int)=T1 L a1 a2 a0 k i Ak Aj) hl hn (fun n i h Ak Aj=>by simp only [Tn,Ah9,T1,C4 h,aN,aB,aC]) (fun n i x k h hx ih Ak Aj=>by simp only [Tn,Ah9,T1,C5 h,Hp h,hx,Aw h hl,ih,aN,aB,aC])
def Ik(Hl:Ac→Aq→(List Ad)→Option Int)(L:Nat)(a2:List Ad)(a0:Ac)(a1:Aq):List Ad→Nat→Int→Option (Nat×Int×Int)
 | [],i,Ai=>(some (1,(Ai,(i:Int))))
 |x::k,i,Ai=>(Option.bind (Alz L a0 a1 x) fun r1=>
 (bif (r1 == 0) then (Option.bind (Hl a0 a1 (x.Body)) fun r2=>
 (bif (r2 == 0) then (Option.bind (Hl a0 a1 (x.Else)) fun r3=>
 (bif (r3 != 0) then (some (0,(r3,(i:Int))))
 else (Ik Hl L a2 a0 a1 k (i+1) Ai)))
 else (bif (r2 != 0) then (some (0,(r2,(i:Int))))
 else (Ik Hl L a2 a0 a1 k (i+1) Ai))))
 else (bif (r1 == 0) then (Option.bind (Hl a0 a1 (x.Else)) fun r4=>
 (bif (r4 != 0) then (some (0,(r4,(i:Int))))
 else (Ik Hl L a2 a0 a1 k (i+1) Ai)))
 else (bif (r1 != 0) then (some (0,(r1,(i:Int))))
 else (Ik Hl L a2 a0 a1 k (i+1) Ai)))))
theorem A4j(Hl:Ac→Aq→(List Ad)→Option Int)(L:Nat)(a2:List Ad)(a0:Ac)(a1:Aq)(n:Nat)(hl:a2.length≤maxLen)(hn:a2.length < n):∀(Ai:Int),Qn Hl L a2 a0 a1 n Ai 0=Ik Hl L a2 a0 a1 a2 0 Ai:=lQ (fun k i n=>∀(Ai:Int),Qn Hl L a2 a0 a1 n Ai (i:Int)=Ik Hl L a2 a0 a1 k i Ai) hl hn (fun n i h Ai=>by simp only [Qn,Ad8,Ik,C4 h,aN,aB,aC]) (fun n i x k h hx ih Ai=>by simp only [Qn,Ad8,Ik,C5 h,Hp h,hx,Aw h hl,ih,aN,aB,aC])
def Mv(L:Nat)(a0:Ac):List Aa→Nat→Int→Option (Nat×Int×Int)
 | [],i,Ai=>(some (0,(Ai,(i:Int))))
 |x::k,i,Ai=>(Option.bind (Mj L (i:Int) a0 L Ai 0) fun o4=>
 (As0 o4.1 [(Mv L a0 k (i+1) o4.2.1)]))
theorem A4i(L:Nat)(a0:Ac)(n:Nat)(hl:a0.Sites.length≤maxLen)(hn:a0.Sites.length < n):∀(Ai:Int),Mi L a0 n Ai 0=Mv L a0 a0.Sites 0 Ai:=lQ (fun k i n=>∀(Ai:Int),Mi L a0 n Ai (i:Int)=Mv L a0 k i Ai) hl hn (fun n i h Ai=>by simp only [Mi,Aml,Afj,Zz,Mv,C4 h,aN,aB,aC]) (fun n i x k h hx ih Ai=>by simp only [Mi,Aml,Afj,Zz,Mv,C5 h,Hp h,hx,Aw h hl,ih,aN,aB,aC])
def Qy(L:Nat)(a1:ByteArray)(a0:Ac):List Ag→Nat→Int→Option (Nat×Int×Int)
 | [],i,Ai=>(some (1,(Ai,(i:Int))))
 |x::k,i,Ai=>(bif ((x.Name).toList == a1.toList) then (some (0,((i:Int),(i:Int))))
 else (Qy L a1 a0 k (i+1) Ai))
theorem A4m(L:Nat)(a1:ByteArray)(a0:Ac)(n:Nat)(hl:a0.Params.length≤maxLen)(hn:a0.Params.length < n):∀(Ai:Int),Qq L a1 a0 n Ai 0=Qy L a1 a0 a0.Params 0 Ai:=lQ (fun k i n=>∀(Ai:Int),Qq L a1 a0 n Ai (i:Int)=Qy L a1 a0 k i Ai) hl hn (fun n i h Ai=>by simp only [Qq,Aeb,Qy,C4 h,aN,aB,aC]) (fun n i x k h hx ih Ai=>by simp only [Qq,Aeb,Qy,C5 h,Hp h,hx,Aw h hl,ih,aN,aB,aC])
def Qx(L:Nat)(a1:List Ae)(a0:Ac):List Ae→Nat→Int→ByteArray→List Ag→Option (Nat×Int×Int×ByteArray×List Ag)
 | [],i,Ef,Ajr,Ew=>(some (1,(Ef,(i:Int),Ajr,Ew)))
 |x::k,i,Ef,Ajr,Ew=>(Option.bind (Acp L a0 (x.Name)) fun r5=>
 (bif (decide (r5 < 0)) then (some (0,(5,(i:Int),(⟨#[]⟩:ByteArray),Ew)))
 else (Option.bind (Ml L a1 a0 (i:Int) r5 Ew L Ef 0 Ajr) fun o6=>
 (As0 o6.1 [(some (0,(o6.2.1,(i:Int),o6.2.2.2,Ew))),(if (0≤r5) then (if (r5 < (a0.Params.length:Int)) then (Option.bind (Tf L ((Ew.getD (Int.toNat r5) default).Type_) (x.N)) fun r7=>
 (bif (!r7) then (some (0,(2,(i:Int),(⟨#[]⟩:ByteArray),Ew)))
 else (if (0≤r5) then (if (r5 < (a0.Params.length:Int)) then (Qx L a1 a0 k (i+1) o6.2.1 o6.2.2.2 (Ew.set (Int.toNat r5) (⟨(Ew.getD (Int.toNat r5) default).Name,(Ew.getD (Int.toNat r5) default).Type_,x.N⟩:Ag))) else none) else none))) else none) else none)]))))
theorem A4l(L:Nat)(a1:List Ae)(a0:Ac)(n:Nat)(hl:a1.length≤maxLen)(hn:a1.length < n):∀(Ef:Int) (Ajr:ByteArray) (Ew:List Ag),Mk L a1 a0 n Ef 0 Ajr Ew=Qx L a1 a0 a1 0 Ef Ajr Ew:=lQ (fun k i n=>∀(Ef:Int) (Ajr:ByteArray) (Ew:List Ag),Mk L a1 a0 n Ef (i:Int) Ajr Ew=Qx L a1 a0 k i Ef Ajr Ew) hl hn (fun n i h Ef Ajr Ew=>by simp only [Mk,Amn,Afm,Z4,Qx,C4 h,aN,aB,aC]) (fun n i x k h hx ih Ef Ajr Ew=>by simp only [Mk,Amn,Afm,Z4,Qx,C5 h,Hp h,hx,Aw h hl,ih,aN,aB,aC])
def H5(L:Nat)(a0:List Ag)(a1:List Ag):List Ag→Nat→Bool→Option (Nat×Bool×Int)
 | [],i,Ak=>(some (1,(Ak,(i:Int))))
 |x::k,i,Ak=>(if ((i:Int) < (a1.length:Int)) then (bif (!((x.Name == (a1.getD (Int.toNat (i:Int)) default).Name) && ((x.Type_ == (a1.getD (Int.toNat (i:Int)) default).Type_) && ((x.N == (a1.getD (Int.toNat (i:Int)) default).N) && true)))) then (some (0,(false,(i:Int))))
 else (H5 L a0 a1 k (i+1) Ak)) else none)
theorem Auk(L:Nat)(a0:List Ag)(a1:List Ag)(n:Nat)(hl:a0.length≤maxLen)(hn:a0.length < n):∀(Ak:Bool),H2 L a0 a1 n Ak 0=H5 L a0 a1 a0 0 Ak:=lQ (fun k i n=>∀(Ak:Bool),H2 L a0 a1 n Ak (i:Int)=H5 L a0 a1 k i Ak) hl hn (fun n i h Ak=>by simp only [H2,Uf,H5,C4 h,aN,aB,aC]) (fun n i x k h hx ih Ak=>by simp only [H2,Uf,H5,C5 h,Hp h,hx,Aw h hl,ih,aN,aB,aC])
def I6(L:Nat)(a0:List ByteArray)(a1:List ByteArray):List ByteArray→Nat→Bool→Option (Nat×Bool×Int)
 | [],i,Ak=>(some (1,(Ak,(i:Int))))
 |x::k,i,Ak=>(if ((i:Int) < (a1.length:Int)) then (bif (!(x.toList == (a1.getD (Int.toNat (i:Int)) default).toList)) then (some (0,(false,(i:Int))))
 else (I6 L a0 a1 k (i+1) Ak)) else none)
theorem Avk(L:Nat)(a0:List ByteArray)(a1:List ByteArray)(n:Nat)(hl:a0.length≤maxLen)(hn:a0.length < n):∀(Ak:Bool),I2 L a0 a1 n Ak 0=I6 L a0 a1 a0 0 Ak:=lQ (fun k i n=>∀(Ak:Bool),I2 L a0 a1 n Ak (i:Int)=I6 L a0 a1 k i Ak) hl hn (fun n i h Ak=>by simp only [I2,V0,I6,C4 h,aN,aB,aC]) (fun n i x k h hx ih Ak=>by simp only [I2,V0,I6,C5 h,Hp h,hx,Aw h hl,ih,aN,aB,aC])
def Gw(L:Nat)(a0:Ah)(a1:Ah):List F1→Nat→Bool→Option (Nat×Bool×Int)
 | [],i,Al=>(some (1,(Al,(i:Int))))
 |x::k,i,Al=>(if ((i:Int) < (a1.Shift.length:Int)) then (bif (!((x.At == (a1.Shift.getD (Int.toNat (i:Int)) default).At) && ((x.Units == (a1.Shift.getD (Int.toNat (i:Int)) default).Units) && true))) then (some (0,(false,(i:Int))))
 else (Gw L a0 a1 k (i+1) Al)) else none)
theorem Arq(L:Nat)(a0:Ah)(a1:Ah)(n:Nat)(hl:a0.Shift.length≤maxLen)(hn:a0.Shift.length < n):∀(Al:Bool),Gt L a0 a1 n Al 0=Gw L a0 a1 a0.Shift 0 Al:=lQ (fun k i n=>∀(Al:Bool),Gt L a0 a1 n Al (i:Int)=Gw L a0 a1 k i Al) hl hn (fun n i h Al=>by simp only [Gt,Rj,Gw,C4 h,aN,aB,aC]) (fun n i x k h hx ih Al=>by simp only [Gt,Rj,Gw,C5 h,Hp h,hx,Aw h hl,ih,aN,aB,aC])
def H4(L:Nat)(a0:List Ap)(a1:List Ap):List Ap→Nat→Bool→Option (Nat×Bool×Int)
 | [],i,Ak=>(some (1,(Ak,(i:Int))))
 |x::k,i,Ak=>(if ((i:Int) < (a1.length:Int)) then (bif (!((x.Name == (a1.getD (Int.toNat (i:Int)) default).Name) && ((x.Type_ == (a1.getD (Int.toNat (i:Int)) default).Type_) && true))) then (some (0,(false,(i:Int))))
 else (H4 L a0 a1 k (i+1) Ak)) else none)
theorem Auj(L:Nat)(a0:List Ap)(a1:List Ap)(n:Nat)(hl:a0.length≤maxLen)(hn:a0.length < n):∀(Ak:Bool),H1 L a0 a1 n Ak 0=H4 L a0 a1 a0 0 Ak:=lQ (fun k i n=>∀(Ak:Bool),H1 L a0 a1 n Ak (i:Int)=H4 L a0 a1 k i Ak) hl hn (fun n i h Ak=>by simp only [H1,Ue,H4,C4 h,aN,aB,aC]) (fun n i x k h hx ih Ak=>by simp only [H1,Ue,H4,C5 h,Hp h,hx,Aw h hl,ih,aN,aB,aC])
def Lo(E9:Ab→Ab→Option Bool)(F6:(List Ab)→(List Ab)→Option Bool)(L:Nat)(a0:List Ab)(a1:List Ab):List Ab→Nat→Bool→Option (Nat×Bool×Int)
 | [],i,Ak=>(some (1,(Ak,(i:Int))))
 |x::k,i,Ak=>(if ((i:Int) < (a1.length:Int)) then (Option.bind (E9 x (a1.getD (Int.toNat (i:Int)) default)) fun r1=>
 (bif (!r1) then (some (0,(false,(i:Int))))
 else (Lo E9 F6 L a0 a1 k (i+1) Ak))) else none)
theorem Ay9(E9:Ab→Ab→Option Bool)(F6:(List Ab)→(List Ab)→Option Bool)(L:Nat)(a0:List Ab)(a1:List Ab)(n:Nat)(hl:a0.length≤maxLen)(hn:a0.length < n):∀(Ak:Bool),La E9 F6 L a0 a1 n Ak 0=Lo E9 F6 L a0 a1 a0 0 Ak:=lQ (fun k i n=>∀(Ak:Bool),La E9 F6 L a0 a1 n Ak (i:Int)=Lo E9 F6 L a0 a1 k i Ak) hl hn (fun n i h Ak=>by simp only [La,i9,Lo,C4 h,aN,aB,aC]) (fun n i x k h hx ih Ak=>by simp only [La,i9,Lo,C5 h,Hp h,hx,Aw h hl,ih,aN,aB,aC])
def I5(L:Nat)(a0:List Ab)(a1:List Ab):List Ab→Nat→Bool→Option (Nat×Bool×Int)
 | [],i,Ak=>(some (1,(Ak,(i:Int))))
 |x::k,i,Ak=>(if ((i:Int) < (a1.length:Int)) then (Option.bind (Eh L x (a1.getD (Int.toNat (i:Int)) default)) fun r1=>
 (bif (!r1) then (some (0,(false,(i:Int))))
 else (I5 L a0 a1 k (i+1) Ak))) else none)
theorem Avj(L:Nat)(a0:List Ab)(a1:List Ab)(n:Nat)(hl:a0.length≤maxLen)(hn:a0.length < n):∀(Ak:Bool),I1 L a0 a1 n Ak 0=I5 L a0 a1 a0 0 Ak:=lQ (fun k i n=>∀(Ak:Bool),I1 L a0 a1 n Ak (i:Int)=I5 L a0 a1 k i Ak) hl hn (fun n i h Ak=>by simp only [I1,Vz,I5,C4 h,aN,aB,aC]) (fun n i x k h hx ih Ak=>by simp only [I1,Vz,I5,C5 h,Hp h,hx,Aw h hl,ih,aN,aB,aC])
def Ty(Hw:(List Ad)→(List Ad)→Option Bool)(L:Nat)(a0:List Ad)(a1:List Ad):List Ad→Nat→Bool→Option (Nat×Bool×Int)
 | [],i,Ak=>(some (1,(Ak,(i:Int))))
 |x::k,i,Ak=>(if ((i:Int) < (a1.length:Int)) then ((fun b1=>
 ((fun b2=>
 ((fun b3=>
 (Option.bind (bif b3 then (some true)
 else (Option.bind (Eh L (x.E) ((a1.getD (Int.toNat (i:Int)) default).E)) fun r5=>
 (some (!r5)))) fun b4=>
 (Option.bind (bif b4 then (some true)
 else (Option.bind (Eh L (x.F) ((a1.getD (Int.toNat (i:Int)) default).F)) fun r7=>
 (some (!r7)))) fun b6=>
 (bif b6 then (some (0,(false,(i:Int))))
 else (Option.bind (We L (x.Args) ((a1.getD (Int.toNat (i:Int)) default).Args)) fun r8=>
 (Option.bind (bif (!r8) then (some true)
 else (Option.bind (Td L (x.Dist) ((a1.getD (Int.toNat (i:Int)) default).Dist)) fun r10=>
 (some (!r10)))) fun b9=>
 (Option.bind (bif b9 then (some true)
 else (Option.bind (Hw (x.Body) ((a1.getD (Int.toNat (i:Int)) default).Body)) fun r12=>
 (some (!r12)))) fun b11=>
 (Option.bind (bif b11 then (some true)
 else (Option.bind (Hw (x.Else) ((a1.getD (Int.toNat (i:Int)) default).Else)) fun r14=>
 (some (!r14)))) fun b13=>
 (bif b13 then (some (0,(false,(i:Int))))
 else (Ty Hw L a0 a1 k (i+1) Ak)))))))))) (bif b2 then true
 else (!(x.Flag == (a1.getD (Int.toNat (i:Int)) default).Flag))))) (bif b1 then true
 else (!((x.Of).toList == ((a1.getD (Int.toNat (i:Int)) default).Of).toList))))) (bif (x.Op != (a1.getD (Int.toNat (i:Int)) default).Op) then true
 else (!((x.Name).toList == ((a1.getD (Int.toNat (i:Int)) default).Name).toList)))) else none)
theorem A72(Hw:(List Ad)→(List Ad)→Option Bool)(L:Nat)(a0:List Ad)(a1:List Ad)(n:Nat)(hl:a0.length≤maxLen)(hn:a0.length < n):∀(Ak:Bool),Tk Hw L a0 a1 n Ak 0=Ty Hw L a0 a1 a0 0 Ak:=lQ (fun k i n=>∀(Ak:Bool),Tk Hw L a0 a1 n Ak (i:Int)=Ty Hw L a0 a1 k i Ak) hl hn (fun n i h Ak=>by simp only [Tk,Ah5,Ty,C4 h,aN,aB,aC]) (fun n i x k h hx ih Ak=>by simp only [Tk,Ah5,Ty,C5 h,Hp h,hx,Aw h hl,ih,aN,aB,aC])
def Kb(L:Nat)(a0:List Int)(a1:List Int):List Int→Nat→Bool→Option (Nat×Bool×Int)
 | [],i,Ak=>(some (1,(Ak,(i:Int))))
 |x::k,i,Ak=>(if ((i:Int) < (a1.length:Int)) then (bif (x != (a1.getD (Int.toNat (i:Int)) default)) then (some (0,(false,(i:Int))))
 else (Kb L a0 a1 k (i+1) Ak)) else none)
theorem Axp(L:Nat)(a0:List Int)(a1:List Int)(n:Nat)(hl:a0.length≤maxLen)(hn:a0.length < n):∀(Ak:Bool),J1 L a0 a1 n Ak 0=Kb L a0 a1 a0 0 Ak:=lQ (fun k i n=>∀(Ak:Bool),J1 L a0 a1 n Ak (i:Int)=Kb L a0 a1 k i Ak) hl hn (fun n i h Ak=>by simp only [J1,Xt,Kb,C4 h,aN,aB,aC]) (fun n i x k h hx ih Ak=>by simp only [J1,Xt,Kb,C5 h,Hp h,hx,Aw h hl,ih,aN,aB,aC])
def Lq(L:Nat)(a0:A9)(a1:A9):List Ay→Nat→Bool→Option (Nat×Bool×Int)
 | [],i,Al=>(some (1,(Al,(i:Int))))
 |x::k,i,Al=>(if ((i:Int) < (a1.Terms.length:Int)) then (bif (!((x.Coef == (a1.Terms.getD (Int.toNat (i:Int)) default).Coef) && ((x.What == (a1.Terms.getD (Int.toNat (i:Int)) default).What) && ((x.Name == (a1.Terms.getD (Int.toNat (i:Int)) default).Name) && true)))) then (some (0,(false,(i:Int))))
 else (Lq L a0 a1 k (i+1) Al)) else none)
theorem Azb(L:Nat)(a0:A9)(a1:A9)(n:Nat)(hl:a0.Terms.length≤maxLen)(hn:a0.Terms.length < n):∀(Al:Bool),Lc L a0 a1 n Al 0=Lq L a0 a1 a0.Terms 0 Al:=lQ (fun k i n=>∀(Al:Bool),Lc L a0 a1 n Al (i:Int)=Lq L a0 a1 k i Al) hl hn (fun n i h Al=>by simp only [Lc,j8,Lq,C4 h,aN,aB,aC]) (fun n i x k h hx ih Al=>by simp only [Lc,j8,Lq,C5 h,Hp h,hx,Aw h hl,ih,aN,aB,aC])
def J5(L:Nat)(a0:Aa)(a1:Aa):List Ah→Nat→Bool→Option (Nat×Bool×Int)
 | [],i,Al=>(some (1,(Al,(i:Int))))
 |x::k,i,Al=>(if ((i:Int) < (a1.Resources.length:Int)) then (Option.bind (K7 L (⟨x.Name,x.Units,x.Shift,x.Cycle,(⟨(x.Fault).Stream,((x.Fault).Up),((x.Fault).Down)⟩:Ki)⟩:Ah) (⟨(a1.Resources.getD (Int.toNat (i:Int)) default).Name,(a1.Resources.getD (Int.toNat (i:Int)) default).Units,(a1.Resources.getD (Int.toNat (i:Int)) default).Shift,(a1.Resources.getD (Int.toNat (i:Int)) default).Cycle,(⟨((a1.Resources.getD (Int.toNat (i:Int)) default).Fault).Stream,(((a1.Resources.getD (Int.toNat (i:Int)) default).Fault).Up),(((a1.Resources.getD (Int.toNat (i:Int)) default).Fault).Down)⟩:Ki)⟩:Ah)) fun r18=>
 (bif (!r18) then (some (0,(false,(i:Int))))
 else (J5 L a0 a1 k (i+1) Al))) else none)
theorem Axi(L:Nat)(a0:Aa)(a1:Aa)(n:Nat)(hl:a0.Resources.length≤maxLen)(hn:a0.Resources.length < n):∀(Al:Bool),Ju L a0 a1 n Al 0=J5 L a0 a1 a0.Resources 0 Al:=lQ (fun k i n=>∀(Al:Bool),Ju L a0 a1 n Al (i:Int)=J5 L a0 a1 k i Al) hl hn (fun n i h Al=>by simp only [Ju,Xm,J5,C4 h,aN,aB,aC]) (fun n i x k h hx ih Al=>by simp only [Ju,Xm,J5,C5 h,Hp h,hx,Aw h hl,ih,aN,aB,aC])
def J6(L:Nat)(a0:Aa)(a1:Aa):List Ar→Nat→Bool→Option (Nat×Bool×Int)
 | [],i,Bo=>(some (1,(Bo,(i:Int))))
 |x::k,i,Bo=>(if ((i:Int) < (a1.Stores.length:Int)) then (bif (!((x.Name == (a1.Stores.getD (Int.toNat (i:Int)) default).Name) && ((x.Room == (a1.Stores.getD (Int.toNat (i:Int)) default).Room) && ((x.Policy == (a1.Stores.getD (Int.toNat (i:Int)) default).Policy) && true)))) then (some (0,(false,(i:Int))))
 else (J6 L a0 a1 k (i+1) Bo)) else none)
theorem Axj(L:Nat)(a0:Aa)(a1:Aa)(n:Nat)(hl:a0.Stores.length≤maxLen)(hn:a0.Stores.length < n):∀(Bo:Bool),Jv L a0 a1 n Bo 0=J6 L a0 a1 a0.Stores 0 Bo:=lQ (fun k i n=>∀(Bo:Bool),Jv L a0 a1 n Bo (i:Int)=J6 L a0 a1 k i Bo) hl hn (fun n i h Bo=>by simp only [Jv,Xn,J6,C4 h,aN,aB,aC]) (fun n i x k h hx ih Bo=>by simp only [Jv,Xn,J6,C5 h,Hp h,hx,Aw h hl,ih,aN,aB,aC])
def J7(L:Nat)(a0:Aa)(a1:Aa):List Ax→Nat→Bool→Option (Nat×Bool×Int)
 | [],i,D6=>(some (1,(D6,(i:Int))))
 |x::k,i,D6=>(if ((i:Int) < (a1.Belts.length:Int)) then (bif (!((x.Name == (a1.Belts.getD (Int.toNat (i:Int)) default).Name) && ((x.Length == (a1.Belts.getD (Int.toNat (i:Int)) default).Length) && ((x.Step == (a1.Belts.getD (Int.toNat (i:Int)) default).Step) && true)))) then (some (0,(false,(i:Int))))
 else (J7 L a0 a1 k (i+1) D6)) else none)
theorem Axk(L:Nat)(a0:Aa)(a1:Aa)(n:Nat)(hl:a0.Belts.length≤maxLen)(hn:a0.Belts.length < n):∀(D6:Bool),Jw L a0 a1 n D6 0=J7 L a0 a1 a0.Belts 0 D6:=lQ (fun k i n=>∀(D6:Bool),Jw L a0 a1 n D6 (i:Int)=J7 L a0 a1 k i D6) hl hn (fun n i h D6=>by simp only [Jw,Xo,J7,C4 h,aN,aB,aC]) (fun n i x k h hx ih D6=>by simp only [Jw,Xo,J7,C5 h,Hp h,hx,Aw h hl,ih,aN,aB,aC])
def J8(L:Nat)(a0:Aa)(a1:Aa):List Am→Nat→Bool→Option (Nat×Bool×Int)
 | [],i,He=>(some (1,(He,(i:Int))))
 |x::k,i,He=>(if ((i:Int) < (a1.Routines.length:Int)) then (Option.bind (bif (!((x.Name).toList == ((a1.Routines.getD (Int.toNat (i:Int)) default).Name).toList)) then (some true)
 else (Option.bind (K6 L (x.Params) ((a1.Routines.getD (Int.toNat (i:Int)) default).Params)) fun r23=>
 (some (!r23)))) fun b22=>
 (Option.bind (bif b22 then (some true)
 else (Option.bind (K6 L (x.Locals) ((a1.Routines.getD (Int.toNat (i:Int)) default).Locals)) fun r25=>
 (some (!r25)))) fun b24=>
 (Option.bind (bif b24 then (some true)
 else (Option.bind (Nd L (x.Body) ((a1.Routines.getD (Int.toNat (i:Int)) default).Body)) fun r27=>
 (some (!r27)))) fun b26=>
 (bif b26 then (some (0,(false,(i:Int))))
 else (J8 L a0 a1 k (i+1) He))))) else none)
theorem Axl(L:Nat)(a0:Aa)(a1:Aa)(n:Nat)(hl:a0.Routines.length≤maxLen)(hn:a0.Routines.length < n):∀(He:Bool),Jx L a0 a1 n He 0=J8 L a0 a1 a0.Routines 0 He:=lQ (fun k i n=>∀(He:Bool),Jx L a0 a1 n He (i:Int)=J8 L a0 a1 k i He) hl hn (fun n i h He=>by simp only [Jx,Xp,J8,C4 h,aN,aB,aC]) (fun n i x k h hx ih He=>by simp only [Jx,Xp,J8,C5 h,Hp h,hx,Aw h hl,ih,aN,aB,aC])
def J9(L:Nat)(a0:Aa)(a1:Aa):List Br→Nat→Bool→Option (Nat×Bool×Int)
 | [],i,Ma=>(some (1,(Ma,(i:Int))))
 |x::k,i,Ma=>(if ((i:Int) < (a1.Starts.length:Int)) then ((fun b29=>
 ((fun b30=>
 ((fun b31=>
 (Option.bind (bif b31 then (some true)
 else (Option.bind (Y0 L (x.Args) ((a1.Starts.getD (Int.toNat (i:Int)) default).Args)) fun r33=>
 (some (!r33)))) fun b32=>
 (bif b32 then (some (0,(false,(i:Int))))
 else (J9 L a0 a1 k (i+1) Ma)))) (bif b30 then true
 else (x.Until != (a1.Starts.getD (Int.toNat (i:Int)) default).Until)))) (bif b29 then true
 else (x.Every != (a1.Starts.getD (Int.toNat (i:Int)) default).Every)))) (bif (!((x.Routine).toList == ((a1.Starts.getD (Int.toNat (i:Int)) default).Routine).toList)) then true
 else (x.At != (a1.Starts.getD (Int.toNat (i:Int)) default).At))) else none)
theorem Axm(L:Nat)(a0:Aa)(a1:Aa)(n:Nat)(hl:a0.Starts.length≤maxLen)(hn:a0.Starts.length < n):∀(Ma:Bool),Jy L a0 a1 n Ma 0=J9 L a0 a1 a0.Starts 0 Ma:=lQ (fun k i n=>∀(Ma:Bool),Jy L a0 a1 n Ma (i:Int)=J9 L a0 a1 k i Ma) hl hn (fun n i h Ma=>by simp only [Jy,Xq,J9,C4 h,aN,aB,aC]) (fun n i x k h hx ih Ma=>by simp only [Jy,Xq,J9,C5 h,Hp h,hx,Aw h hl,ih,aN,aB,aC])
def Ka(L:Nat)(a0:Aa)(a1:Aa):List A9→Nat→Bool→Option (Nat×Bool×Int)
 | [],i,Mb=>(some (1,(Mb,(i:Int))))
 |x::k,i,Mb=>(if ((i:Int) < (a1.Laws.length:Int)) then (Option.bind (Aan L x (a1.Laws.getD (Int.toNat (i:Int)) default)) fun r35=>
 (bif (!r35) then (some (0,(false,(i:Int))))
 else (Ka L a0 a1 k (i+1) Mb))) else none)
theorem Axn(L:Nat)(a0:Aa)(a1:Aa)(n:Nat)(hl:a0.Laws.length≤maxLen)(hn:a0.Laws.length < n):∀(Mb:Bool),Jz L a0 a1 n Mb 0=Ka L a0 a1 a0.Laws 0 Mb:=lQ (fun k i n=>∀(Mb:Bool),Jz L a0 a1 n Mb (i:Int)=Ka L a0 a1 k i Mb) hl hn (fun n i h Mb=>by simp only [Jz,Xr,Ka,C4 h,aN,aB,aC]) (fun n i x k h hx ih Mb=>by simp only [Jz,Xr,Ka,C5 h,Hp h,hx,Aw h hl,ih,aN,aB,aC])
def T2(L:Nat)(a0:Ac)(a1:Ac):List Aa→Nat→Bool→Option (Nat×Bool×Int)
 | [],i,Al=>(some (1,(Al,(i:Int))))
 |x::k,i,Al=>(if ((i:Int) < (a1.Sites.length:Int)) then (Option.bind (Yw L x (a1.Sites.getD (Int.toNat (i:Int)) default)) fun r5=>
 (bif (!r5) then (some (0,(false,(i:Int))))
 else (T2 L a0 a1 k (i+1) Al))) else none)
theorem A78(L:Nat)(a0:Ac)(a1:Ac)(n:Nat)(hl:a0.Sites.length≤maxLen)(hn:a0.Sites.length < n):∀(Al:Bool),Tp L a0 a1 n Al 0=T2 L a0 a1 a0.Sites 0 Al:=lQ (fun k i n=>∀(Al:Bool),Tp L a0 a1 n Al (i:Int)=T2 L a0 a1 k i Al) hl hn (fun n i h Al=>by simp only [Tp,Aia,T2,C4 h,aN,aB,aC]) (fun n i x k h hx ih Al=>by simp only [Tp,Aia,T2,C5 h,Hp h,hx,Aw h hl,ih,aN,aB,aC])
def T3(L:Nat)(a0:Ac)(a1:Ac):List Bk→Nat→Bool→Option (Nat×Bool×Int)
 | [],i,Bo=>(some (1,(Bo,(i:Int))))
 |x::k,i,Bo=>(if ((i:Int) < (a1.Links.length:Int)) then (bif (!((x.From == (a1.Links.getD (Int.toNat (i:Int)) default).From) && ((x.To == (a1.Links.getD (Int.toNat (i:Int)) default).To) && ((x.Delay == (a1.Links.getD (Int.toNat (i:Int)) default).Delay) && true)))) then (some (0,(false,(i:Int))))
 else (T3 L a0 a1 k (i+1) Bo)) else none)
theorem A79(L:Nat)(a0:Ac)(a1:Ac)(n:Nat)(hl:a0.Links.length≤maxLen)(hn:a0.Links.length < n):∀(Bo:Bool),Tq L a0 a1 n Bo 0=T3 L a0 a1 a0.Links 0 Bo:=lQ (fun k i n=>∀(Bo:Bool),Tq L a0 a1 n Bo (i:Int)=T3 L a0 a1 k i Bo) hl hn (fun n i h Bo=>by simp only [Tq,Aib,T3,C4 h,aN,aB,aC]) (fun n i x k h hx ih Bo=>by simp only [Tq,Aib,T3,C5 h,Hp h,hx,Aw h hl,ih,aN,aB,aC])
def Hk(L:Nat)(a0:Ac):List Ag→Nat→List Ae→Option (Nat×List Ae×Int)
 | [],i,Ai=>(some (0,(Ai,(i:Int))))
 |x::k,i,Ai=>(if ((Ai.length+ [(⟨x.Name,x.N⟩:Ae)].length)*24≤140737488355328) then (if (Ai.length+ [(⟨x.Name,x.N⟩:Ae)].length≤maxLen) then (Hk L a0 k (i+1) (Ai++ [(⟨x.Name,x.N⟩:Ae)])) else none) else none)
theorem Avl(L:Nat)(a0:Ac)(n:Nat)(hl:a0.Params.length≤maxLen)(hn:a0.Params.length < n):∀(Ai:List Ae),I3 L a0 n Ai 0=Hk L a0 a0.Params 0 Ai:=lQ (fun k i n=>∀(Ai:List Ae),I3 L a0 n Ai (i:Int)=Hk L a0 k i Ai) hl hn (fun n i h Ai=>by simp only [I3,V1,Hk,C4 h,aN,aB,aC]) (fun n i x k h hx ih Ai=>by simp only [I3,V1,Hk,C5 h,Hp h,hx,Aw h hl,ih,aN,aB,aC])
def Ic(L:Nat)(a0:Ac):List Ag→Nat→List Ae→Option (Nat×List Ae×Int)
 | [],i,Ai=>(some (0,(Ai,(i:Int))))
 |x::k,i,Ai=>(if ((Ai.length+ [(⟨x.Name,x.N⟩:Ae)].length)*24≤140737488355328) then (if (Ai.length+ [(⟨x.Name,x.N⟩:Ae)].length≤maxLen) then (Ic L a0 k (i+1) (Ai++ [(⟨x.Name,x.N⟩:Ae)])) else none) else none)
theorem Axq(L:Nat)(a0:Ac)(n:Nat)(hl:a0.Params.length≤maxLen)(hn:a0.Params.length < n):∀(Ai:List Ae),J2 L a0 n Ai 0=Ic L a0 a0.Params 0 Ai:=lQ (fun k i n=>∀(Ai:List Ae),J2 L a0 n Ai (i:Int)=Ic L a0 k i Ai) hl hn (fun n i h Ai=>by simp only [J2,Xu,Ic,C4 h,aN,aB,aC]) (fun n i x k h hx ih Ai=>by simp only [J2,Xu,Ic,C5 h,Hp h,hx,Aw h hl,ih,aN,aB,aC])
def Gx(L:Nat)(a0:List Ae)(a1:List Ae):List Ae→Nat→Bool→Option (Nat×Bool×Int)
 | [],i,Ak=>(some (1,(Ak,(i:Int))))
 |x::k,i,Ak=>(if ((i:Int) < (a1.length:Int)) then (bif (!((x.Name == (a1.getD (Int.toNat (i:Int)) default).Name) && ((x.N == (a1.getD (Int.toNat (i:Int)) default).N) && true))) then (some (0,(false,(i:Int))))
 else (Gx L a0 a1 k (i+1) Ak)) else none)
theorem Arr(L:Nat)(a0:List Ae)(a1:List Ae)(n:Nat)(hl:a0.length≤maxLen)(hn:a0.length < n):∀(Ak:Bool),Gu L a0 a1 n Ak 0=Gx L a0 a1 a0 0 Ak:=lQ (fun k i n=>∀(Ak:Bool),Gu L a0 a1 n Ak (i:Int)=Gx L a0 a1 k i Ak) hl hn (fun n i h Ak=>by simp only [Gu,Rk,Gx,C4 h,aN,aB,aC]) (fun n i x k h hx ih Ak=>by simp only [Gu,Rk,Gx,C5 h,Hp h,hx,Aw h hl,ih,aN,aB,aC])
end Go.Proofs.YtofcpkmnhmnfcaaGreatR.Ev
