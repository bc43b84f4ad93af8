import Derived.Test.YtmimkinjcfekmaaGreatG1
import Derived.Test.YtmimkinjcfekmaaGreatPa
namespace Go.Proofs.YtmimkinjcfekmaaGreat.Ev
open Go An
set_option maxRecDepth 100000
set_option maxHeartbeats 4000000
set_option linter.unusedVariables false
set_option linter.unusedSimpArgs false
set_option linter.unnecessarySimpa false
theorem aC:(∀i:Nat,(0≤(i:Int))=True)∧(∀i:Nat,Int.toNat (i:Int)=i)∧(∀ {α :Type} (a b: α),cond true a b=a)∧(∀ {α :Type} (a b: α),cond false a b=b)∧(∀ {α :Type} (a b: α),(if True then a else b)=a)∧(∀h:Decidable True,@decide True h=true)∧(∀x:Aa,Aa.mk x.Op x.Name x.N x.Kids=x)∧(∀x:Aa,Aa.cp x=x)∧(∀x:Af,Af.mk x.Op x.Name x.Of x.E x.F x.Args x.Dist x.Flag x.Body x.Else=x)∧(∀x:Af,Af.cp x=x):=⟨nn,toN,fun _ _=>rfl,fun _ _=>rfl,fun _ _=>if_true ..,decide_true,Aa.eta,Aa.cp_eq,Af.eta,Af.cp_eq⟩
def Cm(L:Nat)(a1:ByteArray)(a0:Ae):List Aw→Nat→Int→Bool→Option (Nat×Int×Bool×Int)
 | [],i,Aq,Bm=>(some (1,(Aq,Bm,(i:Int))))
 |x::k,i,Aq,Bm=>(bif ((x.Name).toList == a1.toList) then (some (0,((x.Type_),true,(i:Int))))
 else (Cm L a1 a0 k (i+1) Aq Bm))
theorem Qn(L:Nat)(a1:ByteArray)(a0:Ae)(n:Nat)(hl:a0.Site.Vars.length≤maxLen)(hn:a0.Site.Vars.length < n):∀(Aq:Int) (Bm:Bool),Cf L a1 a0 n Aq Bm 0=Cm L a1 a0 a0.Site.Vars 0 Aq Bm:=lQ (fun k i n=>∀(Aq:Int) (Bm:Bool),Cf L a1 a0 n Aq Bm (i:Int)=Cm L a1 a0 k i Aq Bm) hl hn (fun n i h Aq Bm=>by simp only [Cf,Ga,Cm,P8 h,aN,aB,aC]) (fun n i x k h hx ih Aq Bm=>by simp only [Cf,Ga,Cm,O0 h,g0 h,hx,De h hl,ih,aN,aB,aC])
def Cn(L:Nat)(a1:ByteArray)(a0:Ae):List Aw→Nat→Int→Bool→Option (Nat×Int×Bool×Int)
 | [],i,El,Mr=>(some (1,(El,Mr,(i:Int))))
 |x::k,i,El,Mr=>(bif ((x.Name).toList == a1.toList) then (some (0,((x.Type_),true,(i:Int))))
 else (Cn L a1 a0 k (i+1) El Mr))
theorem Qo(L:Nat)(a1:ByteArray)(a0:Ae)(n:Nat)(hl:a0.Params.length≤maxLen)(hn:a0.Params.length < n):∀(El:Int) (Mr:Bool),Cg L a1 a0 n El Mr 0=Cn L a1 a0 a0.Params 0 El Mr:=lQ (fun k i n=>∀(El:Int) (Mr:Bool),Cg L a1 a0 n El Mr (i:Int)=Cn L a1 a0 k i El Mr) hl hn (fun n i h El Mr=>by simp only [Cg,Gb,Cn,P8 h,aN,aB,aC]) (fun n i x k h hx ih El Mr=>by simp only [Cg,Gb,Cn,O0 h,g0 h,hx,De h hl,ih,aN,aB,aC])
def C1(Bw:Aa→Option Int)(L:Nat)(a0:Aa):List Aa→Nat→Int→Option (Nat×Int×Int)
 | [],i,Aq=>(some (0,(Aq,(i:Int))))
 |x::k,i,Aq=>(Option.bind (Bw x) fun r1=>
 (C1 Bw L a0 k (i+1) (Mu (Aq+r1))))
theorem Rn(Bw:Aa→Option Int)(L:Nat)(a0:Aa)(n:Nat)(hl:a0.Kids.length≤maxLen)(hn:a0.Kids.length < n):∀(Aq:Int),Cz Bw L a0 n Aq 0=C1 Bw L a0 a0.Kids 0 Aq:=lQ (fun k i n=>∀(Aq:Int),Cz Bw L a0 n Aq (i:Int)=C1 Bw L a0 k i Aq) hl hn (fun n i h Aq=>by simp only [Cz,He,C1,P8 h,aN,aB,aC]) (fun n i x k h hx ih Aq=>by simp only [Cz,He,C1,O0 h,g0 h,hx,De h hl,ih,aN,aB,aC])
def C0(Bx:Aa→Option Int)(L:Nat)(a0:Aa):List Aa→Nat→Int→Option (Nat×Int×Int)
 | [],i,Aq=>(some (0,(Aq,(i:Int))))
 |x::k,i,Aq=>(Option.bind (Bx x) fun r1=>
 (C0 Bx L a0 k (i+1) (if r1 > Aq then r1 else Aq)))
theorem Rm(Bx:Aa→Option Int)(L:Nat)(a0:Aa)(n:Nat)(hl:a0.Kids.length≤maxLen)(hn:a0.Kids.length < n):∀(Aq:Int),Cy Bx L a0 n Aq 0=C0 Bx L a0 a0.Kids 0 Aq:=lQ (fun k i n=>∀(Aq:Int),Cy Bx L a0 n Aq (i:Int)=C0 Bx L a0 k i Aq) hl hn (fun n i h Aq=>by simp only [Cy,Hd,C0,P8 h,aN,aB,aC]) (fun n i x k h hx ih Aq=>by simp only [Cy,Hd,C0,O0 h,g0 h,hx,De h hl,ih,aN,aB,aC])
def Be(Bq:Ah→Aa→Option Int)(L:Nat)(a1:Aa)(a0:Ah):List Aa→Nat→Int→Option (Nat×Int×Int)
 | [],i,B8=>(some (1,(B8,(i:Int))))
 |x::k,i,B8=>(Option.bind (Bq (⟨a0.u_code⟩:Ah) x) fun r2=>
 (bif (r2 != 0) then (some (0,(r2,(i:Int))))
 else (Be Bq L a1 a0 k (i+1) B8)))
theorem Mp(Bq:Ah→Aa→Option Int)(L:Nat)(a1:Aa)(a0:Ah)(n:Nat)(hl:a1.Kids.length≤maxLen)(hn:a1.Kids.length < n):∀(B8:Int),Bk Bq L a1 a0 n B8 0=Be Bq L a1 a0 a1.Kids 0 B8:=lQ (fun k i n=>∀(B8:Int),Bk Bq L a1 a0 n B8 (i:Int)=Be Bq L a1 a0 k i B8) hl hn (fun n i h B8=>by simp only [Bk,Dl,Be,P8 h,aN,aB,aC]) (fun n i x k h hx ih B8=>by simp only [Bk,Dl,Be,O0 h,g0 h,hx,De h hl,ih,aN,aB,aC])
def Ba(L:Nat)(a0:List ByteArray)(a1:ByteArray):List ByteArray→Nat→Int→Option (Nat×Int×Int)
 | [],i,Bm=>(some (1,(Bm,(i:Int))))
 |x::k,i,Bm=>(bif (a1.toList == x.toList) then (some (0,((i:Int),(i:Int))))
 else (Ba L a0 a1 k (i+1) Bm))
theorem Kp(L:Nat)(a0:List ByteArray)(a1:ByteArray)(n:Nat)(hl:a0.length≤maxLen)(hn:a0.length < n):∀(Bm:Int),A9 L a0 a1 n Bm 0=Ba L a0 a1 a0 0 Bm:=lQ (fun k i n=>∀(Bm:Int),A9 L a0 a1 n Bm (i:Int)=Ba L a0 a1 k i Bm) hl hn (fun n i h Bm=>by simp only [A9,Cp,Ba,P8 h,aN,aB,aC]) (fun n i x k h hx ih Bm=>by simp only [A9,Cp,Ba,O0 h,g0 h,hx,De h hl,ih,aN,aB,aC])
def Bs(L:Nat)(p1_0:List Ay)(p1_1:Ab)(p1_2:ByteArray):List Ay→Nat→Int→Option (Nat×Int×Int)
 | [],i,Aq=>(some (1,(Aq,(i:Int))))
 |x::k,i,Aq=>(bif ((x.Name).toList == p1_2.toList) then (some (0,((i:Int),(i:Int))))
 else (Bs L p1_0 p1_1 p1_2 k (i+1) Aq))
theorem N6(L:Nat)(p1_0:List Ay)(p1_1:Ab)(p1_2:ByteArray)(n:Nat)(hl:p1_0.length≤maxLen)(hn:p1_0.length < n):∀(Aq:Int),Br L p1_0 p1_1 p1_2 n Aq 0=Bs L p1_0 p1_1 p1_2 p1_0 0 Aq:=lQ (fun k i n=>∀(Aq:Int),Br L p1_0 p1_1 p1_2 n Aq (i:Int)=Bs L p1_0 p1_1 p1_2 k i Aq) hl hn (fun n i h Aq=>by simp only [Br,D7,Bs,P8 h,aN,aB,aC]) (fun n i x k h hx ih Aq=>by simp only [Br,D7,Bs,O0 h,g0 h,hx,De h hl,ih,aN,aB,aC])
end Go.Proofs.YtmimkinjcfekmaaGreat.Ev
