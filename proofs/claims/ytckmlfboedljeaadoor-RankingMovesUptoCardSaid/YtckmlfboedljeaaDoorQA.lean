import Derived.Test.YtckmlfboedljeaaDoorG1
import Derived.Test.YtckmlfboedljeaaDoorPa
import Derived.Test.YtckmlfboedljeaaDoorG2
import Derived.Test.YtckmlfboedljeaaDoorG3
import Derived.Test.YtckmlfboedljeaaDoorG4
import Derived.Test.YtckmlfboedljeaaDoorG5
import Derived.Test.YtckmlfboedljeaaDoorG6
import Derived.Test.YtckmlfboedljeaaDoorG7
import Derived.Test.YtckmlfboedljeaaDoorG8
import Derived.Test.YtckmlfboedljeaaDoorG9
import Derived.Test.YtckmlfboedljeaaDoorG10
namespace Go.Proofs.YtckmlfboedljeaaDoor.Ev
open Go An
set_option maxRecDepth 100000
set_option maxHeartbeats 4000000
set_option linter.unusedVariables false
set_option linter.unusedSimpArgs false
set_option linter.unnecessarySimpa false
theorem aC:(∀i:Nat,(0≤(i:Int))=True)∧(∀i:Nat,Int.toNat (i:Int)=i)∧(∀ {α :Type} (a b: α),cond true a b=a)∧(∀ {α :Type} (a b: α),cond false a b=b)∧(∀ {α :Type} (a b: α),(if True then a else b)=a)∧(∀h:Decidable True,@decide True h=true):=⟨nn,toN,fun _ _=>rfl,fun _ _=>rfl,fun _ _=>if_true ..,decide_true⟩
def Hc(L:Nat)(a0:List Aa):List Aa→Nat→Bool→Int→Int→Int→Int→Option (Nat×Bool×Int×Int×Int×Int×Int)
 | [],i,Dc,Ai,Ar,Ao,Au=>(some (1,(Dc,(i:Int),Ai,Ar,Ao,Au)))
 |x::k,i,Dc,Ai,Ar,Ao,Au=>(Option.bind (Gr L (⟨Ao,Au⟩:Aa) x) fun r1=>
 (bif (!r1.2) then (some (0,(false,(i:Int),0,0,Ao,Au)))
 else (Hc L a0 k (i+1) Dc Ai Ar r1.1.N r1.1.D)))
theorem u7(L:Nat)(a0:List Aa)(n:Nat)(hl:a0.length≤maxLen)(hn:a0.length < n):∀(Dc:Bool) (Ai:Int) (Ar:Int) (Ao:Int) (Au:Int),Gz L a0 n Dc 0 Ai Ar Ao Au=Hc L a0 a0 0 Dc Ai Ar Ao Au:=lQ (fun k i n=>∀(Dc:Bool) (Ai:Int) (Ar:Int) (Ao:Int) (Au:Int),Gz L a0 n Dc (i:Int) Ai Ar Ao Au=Hc L a0 k i Dc Ai Ar Ao Au) hl hn (fun n i h Dc Ai Ar Ao Au=>by simp only [Gz,Oi,Hc,Ps h,aN,aB,aC]) (fun n i x k h hx ih Dc Ai Ar Ao Au=>by simp only [Gz,Oi,Hc,Pt h,j7 h,hx,Ci h hl,ih,aN,aB,aC])
def Cf(L:Nat)(a0:List Aa)(r1:Aa×Bool):List Aa→Nat→List Aa→Bool→List Aa→Option (Nat×List Aa×Bool×List Aa×Int)
 | [],i,Dc,Ax,Ae=>(some (1,(Dc,Ax,Ae,(i:Int))))
 |x::k,i,Dc,Ax,Ae=>(Option.bind (Jw L x r1.1) fun r2=>
 (bif (!r2.2) then (some (0,([],false,Ae,(i:Int))))
 else (if ((Ae.length+ [r2.1].length)*16≤140737488355328) then (if (Ae.length+ [r2.1].length≤maxLen) then (Cf L a0 r1 k (i+1) Dc Ax (Ae++ [r2.1])) else none) else none)))
theorem Tn(L:Nat)(a0:List Aa)(r1:Aa×Bool)(n:Nat)(hl:a0.length≤maxLen)(hn:a0.length < n):∀(Dc:List Aa) (Ax:Bool) (Ae:List Aa),Cc L a0 r1 n Dc Ax Ae 0=Cf L a0 r1 a0 0 Dc Ax Ae:=lQ (fun k i n=>∀(Dc:List Aa) (Ax:Bool) (Ae:List Aa),Cc L a0 r1 n Dc Ax Ae (i:Int)=Cf L a0 r1 k i Dc Ax Ae) hl hn (fun n i h Dc Ax Ae=>by simp only [Cc,F5,Cf,Ps h,aN,aB,aC]) (fun n i x k h hx ih Dc Ax Ae=>by simp only [Cc,F5,Cf,Pt h,j7 h,hx,Ci h hl,ih,aN,aB,aC])
def Cv(L:Nat)(a0:List Aa)(a1:List Aa):List Aa→Nat→Bool→List Aa→Int→Int→Option (Nat×Bool×List Aa×Int×Int×Int)
 | [],i,Ae,Af,Ao,Au=>(some (1,(Ae,Af,(i:Int),Ao,Au)))
 |x::k,i,Ae,Af,Ao,Au=>(if ((i:Int) < (a1.length:Int)) then (Option.bind (M7 L x (a1.getD (Int.toNat (i:Int)) default)) fun r1=>
 (bif (!r1.2) then (some (0,(false,Af,(i:Int),0,0)))
 else (if ((Af.length+ [r1.1].length)*16≤140737488355328) then (if (Af.length+ [r1.1].length≤maxLen) then (Cv L a0 a1 k (i+1) Ae (Af++ [r1.1]) Ao Au) else none) else none))) else none)
theorem Ur(L:Nat)(a0:List Aa)(a1:List Aa)(n:Nat)(hl:a0.length≤maxLen)(hn:a0.length < n):∀(Ae:Bool) (Af:List Aa) (Ao:Int) (Au:Int),Ct L a0 a1 n Ae Af 0 Ao Au=Cv L a0 a1 a0 0 Ae Af Ao Au:=lQ (fun k i n=>∀(Ae:Bool) (Af:List Aa) (Ao:Int) (Au:Int),Ct L a0 a1 n Ae Af (i:Int) Ao Au=Cv L a0 a1 k i Ae Af Ao Au) hl hn (fun n i h Ae Af Ao Au=>by simp only [Ct,Hg,Cv,Ps h,aN,aB,aC]) (fun n i x k h hx ih Ae Af Ao Au=>by simp only [Ct,Hg,Cv,Pt h,j7 h,hx,Ci h hl,ih,aN,aB,aC])
def Bw(L:Nat)(a0:List Ab)(a1:Int):List Ab→Nat→List Ab→Int→List Int→List Ac→Option (Nat×List Ab×Int×Int×List Int×List Ac)
 | [],i,Ae,Af,Au,P0=>(some (1,(Ae,Af,(i:Int),Au,P0)))
 |x::k,i,Ae,Af,Au,P0=>((fun b1=>
 (bif b1 then (Bw L a0 a1 k (i+1) Ae Af Au P0)
 else (Option.bind (Kq L (x.Seen)) fun r2=>
 (bif (r2.2 != 0) then (some (0,([],r2.2,(i:Int),Au,P0)))
 else (fko (Au.findIdx? fun b=>(i:Int) == b) (fun i3=>(Bw L a0 a1 k (i+1) Ae Af Au (P0.set i3 r2.1))) (Bw L a0 a1 k (i+1) Ae Af (Au++ [(i:Int)]) (P0++ [r2.1]))))))) (bif (x.Out != 0) then true
 else (decide (((x.Seen).length:Int) < 2))))
theorem Vf(L:Nat)(a0:List Ab)(a1:Int)(n:Nat)(hl:a0.length≤maxLen)(hn:a0.length < n):∀(Ae:List Ab) (Af:Int) (Au:List Int) (P0:List Ac),C4 L a0 a1 n Ae Af 0 Au P0=Bw L a0 a1 a0 0 Ae Af Au P0:=lQ (fun k i n=>∀(Ae:List Ab) (Af:Int) (Au:List Int) (P0:List Ac),C4 L a0 a1 n Ae Af (i:Int) Au P0=Bw L a0 a1 k i Ae Af Au P0) hl hn (fun n i h Ae Af Au P0=>by simp only [C4,H7,Bw,Ps h,aN,aB,aC]) (fun n i x k h hx ih Ae Af Au P0=>by simp only [C4,H7,Bw,Pt h,j7 h,hx,Ci h hl,ih,aN,aB,aC])
def Bx(L:Nat)(r5:List Int)(o4:Nat×List Ab×Int×Int×List Int×List Ac):List Int→Nat→Int→Bool→Option (Nat×Int×Bool×Int)
 | [],i,D3,P1=>(some (0,(D3,P1,(i:Int))))
 |x::k,i,D3,P1=>(fko (o4.2.2.2.2.1.findIdx? fun b=>x == b) (fun i6=>(bif (!P1) then (Bx L r5 o4 k (i+1) x true)
 else (fko (o4.2.2.2.2.1.findIdx? fun b=>D3 == b) (fun i7=>(Option.bind (Cl L ((o4.2.2.2.2.2.getD i6 default).Mean) ((o4.2.2.2.2.2.getD i7 default).Mean)) fun r8=>
 (bif (decide (r8 < 0)) then (Bx L r5 o4 k (i+1) x true)
 else (Bx L r5 o4 k (i+1) D3 P1)))) (Option.bind (Cl L ((o4.2.2.2.2.2.getD i6 default).Mean) (⟨0,0⟩:Aa)) fun r9=>
 (bif (decide (r9 < 0)) then (Bx L r5 o4 k (i+1) x true)
 else (Bx L r5 o4 k (i+1) D3 P1)))))) (Bx L r5 o4 k (i+1) D3 P1))
theorem Vg(L:Nat)(r5:List Int)(o4:Nat×List Ab×Int×Int×List Int×List Ac)(n:Nat)(hl:r5.length≤maxLen)(hn:r5.length < n):∀(D3:Int) (P1:Bool),Cm L r5 o4 n D3 P1 0=Bx L r5 o4 r5 0 D3 P1:=lQ (fun k i n=>∀(D3:Int) (P1:Bool),Cm L r5 o4 n D3 P1 (i:Int)=Bx L r5 o4 k i D3 P1) hl hn (fun n i h D3 P1=>by simp only [Cm,H8,Bx,Ps h,aN,aB,aC]) (fun n i x k h hx ih D3 P1=>by simp only [Cm,H8,Bx,Pt h,j7 h,hx,Ci h hl,ih,aN,aB,aC])
def Bf(L:Nat)(r11:List Int)(o4:Nat×List Ab×Int×Int×List Int×List Ac)(a0:List Ab):List Int→Nat→Int→Bool→Option (Nat×Int×Bool×Int)
 | [],i,Eo,Ep=>(some (0,(Eo,Ep,(i:Int))))
 |x::k,i,Eo,Ep=>(fko (o4.2.2.2.2.1.findIdx? fun b=>x == b) (fun i12=>(bif (!Ep) then (Bf L r11 o4 a0 k (i+1) x true)
 else (fko (o4.2.2.2.2.1.findIdx? fun b=>Eo == b) (fun i13=>(Option.bind (Cl L ((o4.2.2.2.2.2.getD i12 default).Mean) ((o4.2.2.2.2.2.getD i13 default).Mean)) fun r14=>
 (bif (decide (r14 < 0)) then (Bf L r11 o4 a0 k (i+1) x true)
 else (Bf L r11 o4 a0 k (i+1) Eo Ep)))) (Option.bind (Cl L ((o4.2.2.2.2.2.getD i12 default).Mean) (⟨0,0⟩:Aa)) fun r15=>
 (bif (decide (r15 < 0)) then (Bf L r11 o4 a0 k (i+1) x true)
 else (Bf L r11 o4 a0 k (i+1) Eo Ep)))))) (Bf L r11 o4 a0 k (i+1) Eo Ep))
theorem Vh(L:Nat)(r11:List Int)(o4:Nat×List Ab×Int×Int×List Int×List Ac)(a0:List Ab)(n:Nat)(hl:r11.length≤maxLen)(hn:r11.length < n):∀(Eo:Int) (Ep:Bool),C5 L r11 o4 a0 n Eo Ep 0=Bf L r11 o4 a0 r11 0 Eo Ep:=lQ (fun k i n=>∀(Eo:Int) (Ep:Bool),C5 L r11 o4 a0 n Eo Ep (i:Int)=Bf L r11 o4 a0 k i Eo Ep) hl hn (fun n i h Eo Ep=>by simp only [C5,H9,Bf,Ps h,aN,aB,aC]) (fun n i x k h hx ih Eo Ep=>by simp only [C5,H9,Bf,Pt h,j7 h,hx,Ci h hl,ih,aN,aB,aC])
def D2(L:Nat)(p1_0:List Ab)(p1_1:Int)(p1_2:Aa):List Ab→Nat→Int→Option (Nat×Int×Int)
 | [],i,Ax=>(some (1,(Ax,(i:Int))))
 |x::k,i,Ax=>(bif (x.Point == p1_1) then (some (0,((i:Int),(i:Int))))
 else (D2 L p1_0 p1_1 p1_2 k (i+1) Ax))
theorem Xt(L:Nat)(p1_0:List Ab)(p1_1:Int)(p1_2:Aa)(n:Nat)(hl:p1_0.length≤maxLen)(hn:p1_0.length < n):∀(Ax:Int),D1 L p1_0 p1_1 p1_2 n Ax 0=D2 L p1_0 p1_1 p1_2 p1_0 0 Ax:=lQ (fun k i n=>∀(Ax:Int),D1 L p1_0 p1_1 p1_2 n Ax (i:Int)=D2 L p1_0 p1_1 p1_2 k i Ax) hl hn (fun n i h Ax=>by simp only [D1,Kd,D2,Ps h,aN,aB,aC]) (fun n i x k h hx ih Ax=>by simp only [D1,Kd,D2,Pt h,j7 h,hx,Ci h hl,ih,aN,aB,aC])
def Ig(L:Nat)(a0:List Ab)(a1:Int)(a2:Aa):List Ab→Nat→List Ab→Int→Option (Nat×List Ab×Int×Int)
 | [],i,Ae,Af=>(some (1,(Ae,Af,(i:Int))))
 |x::k,i,Ae,Af=>(bif (x.Point != a1) then (Ig L a0 a1 a2 k (i+1) Ae Af)
 else (bif (x.Out != 0) then (some (0,([],15,(i:Int))))
 else (bif (decide (((x.Seen).length:Int)≥50)) then (some (0,([],13,(i:Int))))
 else (Option.bind (Cx L a2) fun r1=>
 (bif (!r1) then (some (0,([],2,(i:Int))))
 else (bif (Nat.beq a0.length 0) then (if ((0+(x.Seen).length)*16≤140737488355328) then (if (0+(x.Seen).length≤maxLen) then (if (((x.Seen).length+ [a2].length)*16≤140737488355328) then (if ((x.Seen).length+ [a2].length≤maxLen) then (if ((i:Int) < ((0:Nat):Int)) then none else none) else none) else none) else none) else none)
 else (if (a0.length*40≤140737488355328) then (if (a0.length≤maxLen) then (if ((0+(x.Seen).length)*16≤140737488355328) then (if (0+(x.Seen).length≤maxLen) then (if (((x.Seen).length+ [a2].length)*16≤140737488355328) then (if ((x.Seen).length+ [a2].length≤maxLen) then (some (0,((a0.set (Int.toNat (i:Int)) (⟨x.Point,(x.Seen++ [a2]),x.Out⟩:Ab)),0,(i:Int)))) else none) else none) else none) else none) else none) else none)))))))
theorem Aao(L:Nat)(a0:List Ab)(a1:Int)(a2:Aa)(n:Nat)(hl:a0.length≤maxLen)(hn:a0.length < n):∀(Ae:List Ab) (Af:Int),Ib L a0 a1 a2 n Ae Af 0=Ig L a0 a1 a2 a0 0 Ae Af:=lQ (fun k i n=>∀(Ae:List Ab) (Af:Int),Ib L a0 a1 a2 n Ae Af (i:Int)=Ig L a0 a1 a2 k i Ae Af) hl hn (fun n i h Ae Af=>by simp only [Ib,Py,Ig,Ps h,aN,aB,aC]) (fun n i x k h hx ih Ae Af=>by simp only [Ib,Py,Ig,Pt h,j7 h,hx,Ci h hl,ih,aN,aB,aC])
def Ch(L:Nat)(a0:List Ab):List Ab→Nat→List Int→List Aa→Option (Nat×Int×List Int×List Aa)
 | [],i,Ao,Au=>(some (0,((i:Int),Ao,Au)))
 |x::k,i,Ao,Au=>(Option.bind (Hn L (x.Seen)) fun r1=>
 (bif r1.2 then (fko (Ao.findIdx? fun b=>(i:Int) == b) (fun i2=>(Ch L a0 k (i+1) Ao (Au.set i2 r1.1))) (Ch L a0 k (i+1) (Ao++ [(i:Int)]) (Au++ [r1.1])))
 else (Ch L a0 k (i+1) Ao Au)))
theorem Wo(L:Nat)(a0:List Ab)(n:Nat)(hl:a0.length≤maxLen)(hn:a0.length < n):∀(Ao:List Int) (Au:List Aa),Dl L a0 n 0 Ao Au=Ch L a0 a0 0 Ao Au:=lQ (fun k i n=>∀(Ao:List Int) (Au:List Aa),Dl L a0 n (i:Int) Ao Au=Ch L a0 k i Ao Au) hl hn (fun n i h Ao Au=>by simp only [Dl,Jj,Ch,Ps h,aN,aB,aC]) (fun n i x k h hx ih Ao Au=>by simp only [Dl,Jj,Ch,Pt h,j7 h,hx,Ci h hl,ih,aN,aB,aC])
def B6(L:Nat)(a0:List Ab):List Ab→Nat→List Int→List Aa→Option (Nat×Int×List Int×List Aa)
 | [],i,C1,Cw=>(some (0,((i:Int),C1,Cw)))
 |x::k,i,C1,Cw=>(bif (x.Out != 0) then (fko (C1.findIdx? fun b=>(i:Int) == b) (fun i4=>(B6 L a0 k (i+1) ((C1.take i4).drop 0++(C1.take C1.length).drop (i4+1)) ((Cw.take i4).drop 0++(Cw.take Cw.length).drop (i4+1)))) (B6 L a0 k (i+1) C1 Cw))
 else (B6 L a0 k (i+1) C1 Cw))
theorem Wp(L:Nat)(a0:List Ab)(n:Nat)(hl:a0.length≤maxLen)(hn:a0.length < n):∀(C1:List Int) (Cw:List Aa),Dm L a0 n 0 C1 Cw=B6 L a0 a0 0 C1 Cw:=lQ (fun k i n=>∀(C1:List Int) (Cw:List Aa),Dm L a0 n (i:Int) C1 Cw=B6 L a0 k i C1 Cw) hl hn (fun n i h C1 Cw=>by simp only [Dm,Jk,B6,Ps h,aN,aB,aC]) (fun n i x k h hx ih C1 Cw=>by simp only [Dm,Jk,B6,Pt h,j7 h,hx,Ci h hl,ih,aN,aB,aC])
def Bj(L:Nat)(r6:List Int)(o5:Nat×Int×List Int×List Aa):List Int→Nat→Int→Bool→Option (Nat×Int×Bool×Int)
 | [],i,Eo,Ep=>(some (0,(Eo,Ep,(i:Int))))
 |x::k,i,Eo,Ep=>(fko (o5.2.2.1.findIdx? fun b=>x == b) (fun i7=>(bif (!Ep) then (Bj L r6 o5 k (i+1) x true)
 else (fko (o5.2.2.1.findIdx? fun b=>Eo == b) (fun i8=>(Option.bind (Cl L (o5.2.2.2.getD i7 default) (o5.2.2.2.getD i8 default)) fun r9=>
 (bif (decide (r9 < 0)) then (Bj L r6 o5 k (i+1) x true)
 else (Bj L r6 o5 k (i+1) Eo Ep)))) (Option.bind (Cl L (o5.2.2.2.getD i7 default) (⟨0,0⟩:Aa)) fun r10=>
 (bif (decide (r10 < 0)) then (Bj L r6 o5 k (i+1) x true)
 else (Bj L r6 o5 k (i+1) Eo Ep)))))) (Bj L r6 o5 k (i+1) Eo Ep))
theorem Wq(L:Nat)(r6:List Int)(o5:Nat×Int×List Int×List Aa)(n:Nat)(hl:r6.length≤maxLen)(hn:r6.length < n):∀(Eo:Int) (Ep:Bool),Dn L r6 o5 n Eo Ep 0=Bj L r6 o5 r6 0 Eo Ep:=lQ (fun k i n=>∀(Eo:Int) (Ep:Bool),Dn L r6 o5 n Eo Ep (i:Int)=Bj L r6 o5 k i Eo Ep) hl hn (fun n i h Eo Ep=>by simp only [Dn,Jl,Bj,Ps h,aN,aB,aC]) (fun n i x k h hx ih Eo Ep=>by simp only [Dn,Jl,Bj,Pt h,j7 h,hx,Ci h hl,ih,aN,aB,aC])
def Ie(L:Nat)(a0:List Aa):List Aa→Nat→Bool→Bool→Int→Int→Int→Int→Option (Nat×Bool×Bool×Int×Int×Int×Int×Int)
 | [],i,Ax,Ae,Ai,Ar,Ao,Au=>(some (1,(Ax,Ae,(i:Int),Ai,Ar,Ao,Au)))
 |x::k,i,Ax,Ae,Ai,Ar,Ao,Au=>(Option.bind (Lp L (⟨Ao,Au⟩:Aa) x) fun r1=>
 (bif (!r1.2) then (some (0,(false,r1.2,(i:Int),0,0,r1.1.N,r1.1.D)))
 else (Ie L a0 k (i+1) Ax r1.2 Ai Ar r1.1.N r1.1.D)))
theorem Aan(L:Nat)(a0:List Aa)(n:Nat)(hl:a0.length≤maxLen)(hn:a0.length < n):∀(Ax:Bool) (Ae:Bool) (Ai:Int) (Ar:Int) (Ao:Int) (Au:Int),Ia L a0 n Ax Ae 0 Ai Ar Ao Au=Ie L a0 a0 0 Ax Ae Ai Ar Ao Au:=lQ (fun k i n=>∀(Ax:Bool) (Ae:Bool) (Ai:Int) (Ar:Int) (Ao:Int) (Au:Int),Ia L a0 n Ax Ae (i:Int) Ai Ar Ao Au=Ie L a0 k i Ax Ae Ai Ar Ao Au) hl hn (fun n i h Ax Ae Ai Ar Ao Au=>by simp only [Ia,Px,Ie,Ps h,aN,aB,aC]) (fun n i x k h hx ih Ax Ae Ai Ar Ao Au=>by simp only [Ia,Px,Ie,Pt h,j7 h,hx,Ci h hl,ih,aN,aB,aC])
def Es(L:Nat)(a0:List Ab):List Ab→Nat→Int→Int→Int→Option (Nat×Int×Int×Int×Int)
 | [],i,Af,Ar,Ao=>(some (0,(Af,(i:Int),Ar,Ao)))
 |x::k,i,Af,Ar,Ao=>(Option.bind (Ew L x) fun r1=>
 ((fun b2=>
 (Option.bind (bif b2 then (bif (decide (Af < 0)) then (some true)
 else (Option.bind (Ge L r1.1 (⟨Ar,Ao⟩:Aa)) fun r4=>
 (some (decide (r4 < 0)))))
 else (some false)) fun b3=>
 (bif b3 then (Es L a0 k (i+1) (i:Int) r1.1.N r1.1.D)
 else (Es L a0 k (i+1) Af Ar Ao)))) (bif (x.Out == 0) then r1.2
 else false)))
theorem u5(L:Nat)(a0:List Ab)(n:Nat)(hl:a0.length≤maxLen)(hn:a0.length < n):∀(Af:Int) (Ar:Int) (Ao:Int),Gx L a0 n Af 0 Ar Ao=Es L a0 a0 0 Af Ar Ao:=lQ (fun k i n=>∀(Af:Int) (Ar:Int) (Ao:Int),Gx L a0 n Af (i:Int) Ar Ao=Es L a0 k i Af Ar Ao) hl hn (fun n i h Af Ar Ao=>by simp only [Gx,Og,Es,Ps h,aN,aB,aC]) (fun n i x k h hx ih Af Ar Ao=>by simp only [Gx,Og,Es,Pt h,j7 h,hx,Ci h hl,ih,aN,aB,aC])
def Ha(L:Nat)(a0:List Aa)(a1:List Aa):List Aa→Nat→Bool→Option (Nat×Bool×Int)
 | [],i,Ae=>(some (1,(Ae,(i:Int))))
 |x::k,i,Ae=>(if ((i:Int) < (a1.length:Int)) then (bif (!((x.N == (a1.getD (Int.toNat (i:Int)) default).N) && ((x.D == (a1.getD (Int.toNat (i:Int)) default).D) && true))) then (some (0,(false,(i:Int))))
 else (Ha L a0 a1 k (i+1) Ae)) else none)
theorem u4(L:Nat)(a0:List Aa)(a1:List Aa)(n:Nat)(hl:a0.length≤maxLen)(hn:a0.length < n):∀(Ae:Bool),Gw L a0 a1 n Ae 0=Ha L a0 a1 a0 0 Ae:=lQ (fun k i n=>∀(Ae:Bool),Gw L a0 a1 n Ae (i:Int)=Ha L a0 a1 k i Ae) hl hn (fun n i h Ae=>by simp only [Gw,Oe,Ha,Ps h,aN,aB,aC]) (fun n i x k h hx ih Ae=>by simp only [Gw,Oe,Ha,Pt h,j7 h,hx,Ci h hl,ih,aN,aB,aC])
def Hb(L:Nat)(a0:List Ab)(a1:List Ab):List Ab→Nat→Bool→Option (Nat×Bool×Int)
 | [],i,Ae=>(some (1,(Ae,(i:Int))))
 |x::k,i,Ae=>(if ((i:Int) < (a1.length:Int)) then (bif (x.Point != (a1.getD (Int.toNat (i:Int)) default).Point) then (some (0,(false,(i:Int))))
 else (if ((i:Int) < (a1.length:Int)) then (bif (x.Out != (a1.getD (Int.toNat (i:Int)) default).Out) then (some (0,(false,(i:Int))))
 else (if ((i:Int) < (a1.length:Int)) then (Option.bind (La L (x.Seen) ((a1.getD (Int.toNat (i:Int)) default).Seen)) fun r1=>
 (bif (!r1) then (some (0,(false,(i:Int))))
 else (Hb L a0 a1 k (i+1) Ae))) else none)) else none)) else none)
theorem u6(L:Nat)(a0:List Ab)(a1:List Ab)(n:Nat)(hl:a0.length≤maxLen)(hn:a0.length < n):∀(Ae:Bool),Gy L a0 a1 n Ae 0=Hb L a0 a1 a0 0 Ae:=lQ (fun k i n=>∀(Ae:Bool),Gy L a0 a1 n Ae (i:Int)=Hb L a0 a1 k i Ae) hl hn (fun n i h Ae=>by simp only [Gy,Oh,Hb,Ps h,aN,aB,aC]) (fun n i x k h hx ih Ae=>by simp only [Gy,Oh,Hb,Pt h,j7 h,hx,Ci h hl,ih,aN,aB,aC])
def Cu(L:Nat)(a0:List Aa)(r1:Aa×Bool):List Aa→Nat→List Aa→Bool→List Aa→Option (Nat×List Aa×Bool×List Aa×Int)
 | [],i,Ax,Ae,Af=>(some (1,(Ax,Ae,Af,(i:Int))))
 |x::k,i,Ax,Ae,Af=>(Option.bind (M4 L x r1.1) fun r2=>
 (bif (!r2.2) then (some (0,([],false,Af,(i:Int))))
 else (if ((Af.length+ [r2.1].length)*16≤140737488355328) then (if (Af.length+ [r2.1].length≤maxLen) then (Cu L a0 r1 k (i+1) Ax Ae (Af++ [r2.1])) else none) else none)))
theorem Uq(L:Nat)(a0:List Aa)(r1:Aa×Bool)(n:Nat)(hl:a0.length≤maxLen)(hn:a0.length < n):∀(Ax:List Aa) (Ae:Bool) (Af:List Aa),Cs L a0 r1 n Ax Ae Af 0=Cu L a0 r1 a0 0 Ax Ae Af:=lQ (fun k i n=>∀(Ax:List Aa) (Ae:Bool) (Af:List Aa),Cs L a0 r1 n Ax Ae Af (i:Int)=Cu L a0 r1 k i Ax Ae Af) hl hn (fun n i h Ax Ae Af=>by simp only [Cs,Hf,Cu,Ps h,aN,aB,aC]) (fun n i x k h hx ih Ax Ae Af=>by simp only [Cs,Hf,Cu,Pt h,j7 h,hx,Ci h hl,ih,aN,aB,aC])
def Dp(L:Nat)(a0:List Aa)(a1:List Aa):List Aa→Nat→Bool→List Aa→Int→Int→Option (Nat×Bool×List Aa×Int×Int×Int)
 | [],i,Ae,Af,Ar,Ao=>(some (1,(Ae,Af,(i:Int),Ar,Ao)))
 |x::k,i,Ae,Af,Ar,Ao=>(if ((i:Int) < (a1.length:Int)) then (Option.bind (P6 L x (a1.getD (Int.toNat (i:Int)) default)) fun r1=>
 (bif (!r1.2) then (some (0,(false,Af,(i:Int),0,0)))
 else (if ((Af.length+ [r1.1].length)*16≤140737488355328) then (if (Af.length+ [r1.1].length≤maxLen) then (Dp L a0 a1 k (i+1) Ae (Af++ [r1.1]) Ar Ao) else none) else none))) else none)
theorem Wn(L:Nat)(a0:List Aa)(a1:List Aa)(n:Nat)(hl:a0.length≤maxLen)(hn:a0.length < n):∀(Ae:Bool) (Af:List Aa) (Ar:Int) (Ao:Int),Dk L a0 a1 n Ae Af 0 Ar Ao=Dp L a0 a1 a0 0 Ae Af Ar Ao:=lQ (fun k i n=>∀(Ae:Bool) (Af:List Aa) (Ar:Int) (Ao:Int),Dk L a0 a1 n Ae Af (i:Int) Ar Ao=Dp L a0 a1 k i Ae Af Ar Ao) hl hn (fun n i h Ae Af Ar Ao=>by simp only [Dk,Ji,Dp,Ps h,aN,aB,aC]) (fun n i x k h hx ih Ae Af Ar Ao=>by simp only [Dk,Ji,Dp,Pt h,j7 h,hx,Ci h hl,ih,aN,aB,aC])
def Cn(L:Nat)(a0:List Ab)(a1:Int):List Ab→Nat→List Ab→Int→Int→List Ac→Option (Nat×List Ab×Int×Int×Int×List Ac)
 | [],i,Ae,Af,Ar,Au=>(some (1,(Ae,Af,Ar,(i:Int),Au)))
 |x::k,i,Ae,Af,Ar,Au=>(Option.bind (bif (x.Out != 0) then (some true)
 else (if (0≤(i:Int)) then (if ((i:Int) < (a0.length:Int)) then (some (decide (((x.Seen).length:Int) < 2))) else none) else none)) fun b1=>
 (bif b1 then (Cn L a0 a1 k (i+1) Ae Af Ar Au)
 else (Option.bind (Iu L (x.Seen)) fun r2=>
 (bif (r2.2 != 0) then (some (0,([],r2.2,Ar,(i:Int),Au)))
 else (if ((i:Int) < (((Int.toNat (a0.length:Int)):Nat):Int)) then (bif (decide (Ar < 0)) then (Cn L a0 a1 k (i+1) Ae Af (i:Int) (Au.set (Int.toNat (i:Int)) r2.1))
 else (if (0≤Ar) then (if (Ar < (((Int.toNat (a0.length:Int)):Nat):Int)) then (Option.bind (Ge L r2.1.Mean (((Au.set (Int.toNat (i:Int)) r2.1).getD (Int.toNat Ar) default).Mean)) fun r3=>
 (bif (decide (r3 < 0)) then (Cn L a0 a1 k (i+1) Ae Af (i:Int) (Au.set (Int.toNat (i:Int)) r2.1))
 else (Cn L a0 a1 k (i+1) Ae Af Ar (Au.set (Int.toNat (i:Int)) r2.1)))) else none) else none)) else none)))))
theorem g6(L:Nat)(a0:List Ab)(a1:Int)(n:Nat)(hl:a0.length≤maxLen)(hn:a0.length < n):∀(Ae:List Ab) (Af:Int) (Ar:Int) (Au:List Ac),Ez L a0 a1 n Ae Af Ar 0 Au=Cn L a0 a1 a0 0 Ae Af Ar Au:=lQ (fun k i n=>∀(Ae:List Ab) (Af:Int) (Ar:Int) (Au:List Ac),Ez L a0 a1 n Ae Af Ar (i:Int) Au=Cn L a0 a1 k i Ae Af Ar Au) hl hn (fun n i h Ae Af Ar Au=>by simp only [Ez,Mf,Cn,Ps h,aN,aB,aC]) (fun n i x k h hx ih Ae Af Ar Au=>by simp only [Ez,Mf,Cn,Pt h,j7 h,hx,Ci h hl,ih,aN,aB,aC])
def E8(L:Nat)(a0:List Ab)(a1:Int)(o4:Nat×List Ab×Int×Int×Int×List Ac):List Ab→Nat→Option (Nat×Int)
 | [],i=>(some (0,(i:Int)))
 |x::k,i=>(bif (x.Out == 0) then (bif (decide (((x.Seen).length:Int)≥2)) then (if ((i:Int) < (((Int.toNat (a0.length:Int)):Nat):Int)) then (if (0≤o4.2.2.2.1) then (if (o4.2.2.2.1 < (((Int.toNat (a0.length:Int)):Nat):Int)) then (Option.bind (D6 L (⟨((o4.2.2.2.2.2.getD (Int.toNat (i:Int)) default).Mean),((o4.2.2.2.2.2.getD (Int.toNat (i:Int)) default).Half)⟩:Ac) (⟨((o4.2.2.2.2.2.getD (Int.toNat o4.2.2.2.1) default).Mean),((o4.2.2.2.2.2.getD (Int.toNat o4.2.2.2.1) default).Half)⟩:Ac)) fun r5=>
 (bif r5 then (if ((i:Int) < ((0:Nat):Int)) then none else none)
 else (E8 L a0 a1 o4 k (i+1)))) else none) else none) else none)
 else (E8 L a0 a1 o4 k (i+1)))
 else (E8 L a0 a1 o4 k (i+1)))
theorem g7(L:Nat)(a0:List Ab)(a1:Int)(o4:Nat×List Ab×Int×Int×Int×List Ac)(n:Nat)(hl:a0.length≤maxLen)(hn:a0.length < n):E6 L a0 a1 o4 n 0=E8 L a0 a1 o4 a0 0:=lQ (fun k i n=>E6 L a0 a1 o4 n (i:Int)=E8 L a0 a1 o4 k i) hl hn (fun n i h=>by simp only [E6,Mg,E8,Ps h,aN,aB,aC]) (fun n i x k h hx ih=>by simp only [E6,Mg,E8,Pt h,j7 h,hx,Ci h hl,ih,aN,aB,aC])
def Ca(L:Nat)(a0:List Ab)(a1:Int)(o4:Nat×List Ab×Int×Int×Int×List Ac):List Ab→Nat→List Ab→Option (Nat×Int×List Ab)
 | [],i,Mx=>(some (0,((i:Int),Mx)))
 |x::k,i,Mx=>(bif (x.Out == 0) then (bif (decide (((x.Seen).length:Int)≥2)) then (if ((i:Int) < (((Int.toNat (a0.length:Int)):Nat):Int)) then (if (0≤o4.2.2.2.1) then (if (o4.2.2.2.1 < (((Int.toNat (a0.length:Int)):Nat):Int)) then (Option.bind (D6 L (⟨((o4.2.2.2.2.2.getD (Int.toNat (i:Int)) default).Mean),((o4.2.2.2.2.2.getD (Int.toNat (i:Int)) default).Half)⟩:Ac) (⟨((o4.2.2.2.2.2.getD (Int.toNat o4.2.2.2.1) default).Mean),((o4.2.2.2.2.2.getD (Int.toNat o4.2.2.2.1) default).Half)⟩:Ac)) fun r6=>
 (bif r6 then (Ca L a0 a1 o4 k (i+1) (Mx.set (Int.toNat (i:Int)) (⟨(Mx.getD (Int.toNat (i:Int)) default).Point,(Mx.getD (Int.toNat (i:Int)) default).Seen,a1⟩:Ab)))
 else (Ca L a0 a1 o4 k (i+1) Mx))) else none) else none) else none)
 else (Ca L a0 a1 o4 k (i+1) Mx))
 else (Ca L a0 a1 o4 k (i+1) Mx))
theorem g8(L:Nat)(a0:List Ab)(a1:Int)(o4:Nat×List Ab×Int×Int×Int×List Ac)(n:Nat)(hl:a0.length≤maxLen)(hn:a0.length < n):∀(Mx:List Ab),E7 L a0 a1 o4 n 0 Mx=Ca L a0 a1 o4 a0 0 Mx:=lQ (fun k i n=>∀(Mx:List Ab),E7 L a0 a1 o4 n (i:Int) Mx=Ca L a0 a1 o4 k i Mx) hl hn (fun n i h Mx=>by simp only [E7,Mh,Ca,Ps h,aN,aB,aC]) (fun n i x k h hx ih Mx=>by simp only [E7,Mh,Ca,Pt h,j7 h,hx,Ci h hl,ih,aN,aB,aC])
def Ce(L:Nat)(a0:List Ab)(a1:Int)(Ae:Bool)(r3:(List Ab)×Int)(Ai:Int)(r7:Ac×Int):List Ab→Nat→Bool→Option (Nat×Bool×Int)
 | [],i,C1=>(some (0,(C1,(i:Int))))
 |x::k,i,C1=>(Option.bind (Iu L (x.Seen)) fun r8=>
 (Option.bind (bif C1 then (some true)
 else (bif (r8.2 == 0) then (if (0≤(i:Int)) then (if ((i:Int) < (r3.1.length:Int)) then (bif ((r3.1.getD (Int.toNat (i:Int)) default).Out == 0) then (Option.bind (D6 L r7.1 r8.1) fun r10=>
 (bif r10 then (Option.bind (Ge L r7.1.Mean r8.1.Mean) fun r11=>
 (some (decide (r11 > 0))))
 else (some false)))
 else (some false)) else none) else none)
 else (some false))) fun b9=>
 (Ce L a0 a1 Ae r3 Ai r7 k (i+1) b9)))
theorem Tk(L:Nat)(a0:List Ab)(a1:Int)(Ae:Bool)(r3:(List Ab)×Int)(Ai:Int)(r7:Ac×Int)(n:Nat)(hl:a0.length≤maxLen)(hn:a0.length < n):∀(C1:Bool),Bb L a0 a1 Ae r3 Ai r7 n C1 0=Ce L a0 a1 Ae r3 Ai r7 a0 0 C1:=lQ (fun k i n=>∀(C1:Bool),Bb L a0 a1 Ae r3 Ai r7 n C1 (i:Int)=Ce L a0 a1 Ae r3 Ai r7 k i C1) hl hn (fun n i h C1=>by simp only [Bb,F2,Ce,Ps h,aN,aB,aC]) (fun n i x k h hx ih C1=>by simp only [Bb,F2,Ce,Pt h,j7 h,hx,Ci h hl,ih,aN,aB,aC])
def Be(L:Nat)(a0:List Ab)(a1:Int)(r3:(List Ab)×Int):List Ab→Nat→Bool→Option (Nat×Bool×Int)
 | [],i,Ae=>(some (1,(Ae,(i:Int))))
 |x::k,i,Ae=>(if ((i:Int) < (r3.1.length:Int)) then (bif ((r3.1.getD (Int.toNat (i:Int)) default).Point != x.Point) then (some (0,(false,(i:Int))))
 else (if ((i:Int) < (r3.1.length:Int)) then (Option.bind (La L ((r3.1.getD (Int.toNat (i:Int)) default).Seen) (x.Seen)) fun r6=>
 (bif (!r6) then (some (0,(false,(i:Int))))
 else (if ((i:Int) < (r3.1.length:Int)) then (bif ((r3.1.getD (Int.toNat (i:Int)) default).Out != x.Out) then (bif (x.Out != 0) then (some (0,(false,(i:Int))))
 else (if ((i:Int) < (r3.1.length:Int)) then (bif ((r3.1.getD (Int.toNat (i:Int)) default).Out != a1) then (some (0,(false,(i:Int))))
 else (bif (decide (((x.Seen).length:Int) < 2)) then (some (0,(false,(i:Int))))
 else (if ((i:Int) < (r3.1.length:Int)) then (bif ((r3.1.getD (Int.toNat (i:Int)) default).Out == x.Out) then (Be L a0 a1 r3 k (i+1) Ae)
 else (Option.bind (Iu L (x.Seen)) fun r7=>
 (Option.bind (Bb L a0 a1 Ae r3 (i:Int) r7 L false 0) fun o13=>
 (Aaq o13.1 [(bif (!o13.2.1) then (some (0,(false,(i:Int))))
 else (Be L a0 a1 r3 k (i+1) Ae))])))) else none))) else none))
 else (if ((i:Int) < (r3.1.length:Int)) then (bif ((r3.1.getD (Int.toNat (i:Int)) default).Out == x.Out) then (Be L a0 a1 r3 k (i+1) Ae)
 else (Option.bind (Iu L (x.Seen)) fun r12=>
 (Option.bind (Bb L a0 a1 Ae r3 (i:Int) r12 L false 0) fun o14=>
 (Aaq o14.1 [(bif (!o14.2.1) then (some (0,(false,(i:Int))))
 else (Be L a0 a1 r3 k (i+1) Ae))])))) else none)) else none))) else none)) else none)
theorem Tj(L:Nat)(a0:List Ab)(a1:Int)(r3:(List Ab)×Int)(n:Nat)(hl:a0.length≤maxLen)(hn:a0.length < n):∀(Ae:Bool),Bo L a0 a1 r3 n Ae 0=Be L a0 a1 r3 a0 0 Ae:=lQ (fun k i n=>∀(Ae:Bool),Bo L a0 a1 r3 n Ae (i:Int)=Be L a0 a1 r3 k i Ae) hl hn (fun n i h Ae=>by simp only [Bo,Jc,F7,Ds,Dt,Be,Ps h,aN,aB,aC]) (fun n i x k h hx ih Ae=>by simp only [Bo,Jc,F7,Ds,Dt,Be,Pt h,j7 h,hx,Ci h hl,ih,aN,aB,aC])
def Br(L:Nat)(a0:List Ab)(a1:Int)(Af:List Ab)(Ai:Int):List Aa→Nat→Bool→List Aa→Option (Nat×Bool×Int×List Aa)
 | [],i,D3,P2=>(some (1,(D3,(i:Int),P2)))
 |x::k,i,D3,P2=>(Option.bind (Gr L x (⟨a1,1⟩:Aa)) fun r5=>
 (bif (!r5.2) then (Option.bind (Bs L) fun r6=>
 (some (0,(r6,(i:Int),P2))))
 else (if ((P2.length+ [r5.1].length)*16≤140737488355328) then (if (P2.length+ [r5.1].length≤maxLen) then (Br L a0 a1 Af Ai k (i+1) D3 (P2++ [r5.1])) else none) else none)))
theorem Tm(L:Nat)(a0:List Ab)(a1:Int)(Af:List Ab)(Ai:Int)(n:Nat)(hl:((a0.getD (Int.toNat Ai) default).Seen).length≤maxLen)(hn:((a0.getD (Int.toNat Ai) default).Seen).length < n):∀(D3:Bool) (P2:List Aa),Bp L a0 a1 Af Ai n D3 0 P2=Br L a0 a1 Af Ai ((a0.getD (Int.toNat Ai) default).Seen) 0 D3 P2:=lQ (fun k i n=>∀(D3:Bool) (P2:List Aa),Bp L a0 a1 Af Ai n D3 (i:Int) P2=Br L a0 a1 Af Ai k i D3 P2) hl hn (fun n i h D3 P2=>by simp only [Bp,F3,Br,Ps h,aN,aB,aC]) (fun n i x k h hx ih D3 P2=>by simp only [Bp,F3,Br,Pt h,j7 h,hx,Ci h hl,ih,aN,aB,aC])
def Bq(L:Nat)(a0:List Ab)(a1:Int):List Ab→Nat→Bool→List Ab→Option (Nat×Bool×List Ab×Int)
 | [],i,Ae,Af=>(some (1,(Ae,Af,(i:Int))))
 |x::k,i,Ae,Af=>(Option.bind (Bp L a0 a1 Af (i:Int) L Ae 0 []) fun o7=>
 (Aaq o7.1 [(some (0,(o7.2.1,Af,(i:Int)))),(Option.bind (Ew L x) fun r8=>
 (Option.bind (Ew L (⟨x.Point,o7.2.2.2,x.Out⟩:Ab)) fun r9=>
 (bif (!(r8.2 == r9.2)) then (Option.bind (Bs L) fun r10=>
 (some (0,(r10,Af,(i:Int)))))
 else (Option.bind (Gh L x) fun r11=>
 (Option.bind (Gh L (⟨x.Point,o7.2.2.2,x.Out⟩:Ab)) fun r12=>
 (bif (!((r11.a0 == r12.a0) && ((r11.a1 == r12.a1) && ((r11.a2 == r12.a2) && true)))) then (Option.bind (Bs L) fun r13=>
 (some (0,(r13,Af,(i:Int)))))
 else (if ((Af.length+ [(⟨x.Point,o7.2.2.2,x.Out⟩:Ab)].length)*40≤140737488355328) then (if (Af.length+ [(⟨x.Point,o7.2.2.2,x.Out⟩:Ab)].length≤maxLen) then (Bq L a0 a1 k (i+1) o7.2.1 (Af++ [(⟨x.Point,o7.2.2.2,x.Out⟩:Ab)])) else none) else none)))))))]))
theorem Tl(L:Nat)(a0:List Ab)(a1:Int)(n:Nat)(hl:a0.length≤maxLen)(hn:a0.length < n):∀(Ae:Bool) (Af:List Ab),B2 L a0 a1 n Ae Af 0=Bq L a0 a1 a0 0 Ae Af:=lQ (fun k i n=>∀(Ae:Bool) (Af:List Ab),B2 L a0 a1 n Ae Af (i:Int)=Bq L a0 a1 k i Ae Af) hl hn (fun n i h Ae Af=>by simp only [B2,Jd,F9,Dv,Bq,Ps h,aN,aB,aC]) (fun n i x k h hx ih Ae Af=>by simp only [B2,Jd,F9,Dv,Bq,Pt h,j7 h,hx,Ci h hl,ih,aN,aB,aC])
end Go.Proofs.YtckmlfboedljeaaDoor.Ev
