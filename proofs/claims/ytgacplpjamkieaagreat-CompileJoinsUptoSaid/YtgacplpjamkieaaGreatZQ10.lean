import Derived.Test.YtgacplpjamkieaaGreatZG10
import Derived.Test.YtgacplpjamkieaaGreatZQA
set_option maxRecDepth 100000
set_option maxHeartbeats 4000000
set_option linter.unusedVariables false
set_option linter.unusedSimpArgs false
set_option linter.unnecessarySimpa false
namespace Go.Proofs.YtgacplpjamkieaaGreat.Ev
open Go An
def Ls(L:Nat)(a1:Int)(a0:List Ae):List Ae->Nat->List Ae->Option (Nat×Int×List Ae)
 | [],i,Dp=>(some (0,((i:Int),Dp)))
 |x::k,i,Dp=>(Option.bind (bif ((Dp.getD (Int.toNat (i:Int)) default).Op == 4) then(some true)
 else(if(0<=(i:Int)) then(if((i:Int)<(a0.length:Int)) then(some ((Dp.getD (Int.toNat (i:Int)) default).Op == 5))else none)else none)) λb2=>
 (bif b2 then(Ls L a1 a0 k (i+1) (Dp.set (Int.toNat (i:Int)) (⟨(Dp.getD (Int.toNat (i:Int)) default).Op,(Bb ((Dp.getD (Int.toNat (i:Int)) default).A+a1)),(Dp.getD (Int.toNat (i:Int)) default).B,(Dp.getD (Int.toNat (i:Int)) default).C,((Dp.getD (Int.toNat (i:Int)) default).E),((Dp.getD (Int.toNat (i:Int)) default).F),(Dp.getD (Int.toNat (i:Int)) default).aS,((Dp.getD (Int.toNat (i:Int)) default).bR),(Dp.getD (Int.toNat (i:Int)) default).bZ⟩:Ae)))
 else(Ls L a1 a0 k (i+1) Dp)))
theorem Atg(L:Nat)(a1:Int)(a0:List Ae)(n:Nat)(hl:a0.length<=maxLen)(hn:a0.length<n):∀(Dp:List Ae),N6 L a1 a0 n 0 Dp=Ls L a1 a0 a0 0 Dp:=lQ (λk i n=>∀(Dp:List Ae),N6 L a1 a0 n (i:Int) Dp=Ls L a1 a0 k i Dp) hl hn (λn i h Dp=>by simp only[N6,Yz,Ls,I5 h,aN,aB,aC]) (λn i x k h hx ih Dp=>by simp only[N6,Yz,Ls,I4 h,Ua h,hx,B2 h hl,ih,aN,aB,aC])
def K1(Gh:Aa->Aa->Option Bool)(Gr:(List Aa)->(List Aa)->Option Bool)(L:Nat)(a0:List Aa)(a1:List Aa):List Aa->Nat->Bool->Option (Nat×Bool×Int)
 | [],i,Bl=>(some (1,(Bl,(i:Int))))
 |x::k,i,Bl=>(if((i:Int)<(a1.length:Int)) then(Option.bind (Gh x (a1.getD (Int.toNat (i:Int)) default)) λr1=>
 (bif (!r1) then(some (0,(false,(i:Int))))
 else(K1 Gh Gr L a0 a1 k (i+1) Bl)))else none)
theorem Aor(Gh:Aa->Aa->Option Bool)(Gr:(List Aa)->(List Aa)->Option Bool)(L:Nat)(a0:List Aa)(a1:List Aa)(n:Nat)(hl:a0.length<=maxLen)(hn:a0.length<n):∀(Bl:Bool),Kl Gh Gr L a0 a1 n Bl 0=K1 Gh Gr L a0 a1 a0 0 Bl:=lQ (λk i n=>∀(Bl:Bool),Kl Gh Gr L a0 a1 n Bl (i:Int)=K1 Gh Gr L a0 a1 k i Bl) hl hn (λn i h Bl=>by simp only[Kl,Us,K1,I5 h,aN,aB,aC]) (λn i x k h hx ih Bl=>by simp only[Kl,Us,K1,I4 h,Ua h,hx,B2 h hl,ih,aN,aB,aC])
def Jm(L:Nat)(a0:List Int)(a1:List Int):List Int->Nat->Bool->Option (Nat×Bool×Int)
 | [],i,Bl=>(some (1,(Bl,(i:Int))))
 |x::k,i,Bl=>(if((i:Int)<(a1.length:Int)) then(bif (x != (a1.getD (Int.toNat (i:Int)) default)) then(some (0,(false,(i:Int))))
 else(Jm L a0 a1 k (i+1) Bl))else none)
theorem Am1(L:Nat)(a0:List Int)(a1:List Int)(n:Nat)(hl:a0.length<=maxLen)(hn:a0.length<n):∀(Bl:Bool),Jj L a0 a1 n Bl 0=Jm L a0 a1 a0 0 Bl:=lQ (λk i n=>∀(Bl:Bool),Jj L a0 a1 n Bl (i:Int)=Jm L a0 a1 k i Bl) hl hn (λn i h Bl=>by simp only[Jj,Tf,Jm,I5 h,aN,aB,aC]) (λn i x k h hx ih Bl=>by simp only[Jj,Tf,Jm,I4 h,Ua h,hx,B2 h hl,ih,aN,aB,aC])
def Hz(L:Nat)(a0:List Ae)(a1:List Ae)(Ak:Int):List Aa->Nat->Bool->Option (Nat×Bool×Int)
 | [],i,Lm=>(some (1,(Lm,(i:Int))))
 |x::k,i,Lm=>(if((i:Int)<((((a1.getD (Int.toNat Ak) default).aS).length:Nat):Int)) then(Option.bind (Ga L x (((a1.getD (Int.toNat Ak) default).aS).getD (Int.toNat (i:Int)) default)) λr11=>
 (bif (!r11) then(some (0,(false,(i:Int))))
 else(Hz L a0 a1 Ak k (i+1) Lm)))else none)
theorem Akr(L:Nat)(a0:List Ae)(a1:List Ae)(Ak:Int)(n:Nat)(hl:((a0.getD (Int.toNat Ak) default).aS).length<=maxLen)(hn:((a0.getD (Int.toNat Ak) default).aS).length<n):∀(Lm:Bool),F1 L a0 a1 Ak n Lm 0=Hz L a0 a1 Ak ((a0.getD (Int.toNat Ak) default).aS) 0 Lm:=lQ (λk i n=>∀(Lm:Bool),F1 L a0 a1 Ak n Lm (i:Int)=Hz L a0 a1 Ak k i Lm) hl hn (λn i h Lm=>by simp only[F1,Qg,Hz,I5 h,aN,aB,aC]) (λn i x k h hx ih Lm=>by simp only[F1,Qg,Hz,I4 h,Ua h,hx,B2 h hl,ih,aN,aB,aC])
def Hy(L:Nat)(a0:List Ae)(a1:List Ae):List Ae->Nat->Bool->Option (Nat×Bool×Int)
 | [],i,Bl=>(some (1,(Bl,(i:Int))))
 |x::k,i,Bl=>(if((i:Int)<(a1.length:Int)) then((λb1=>
 ((λb2=>
 ((λb3=>
 ((λb4=>
 ((λb5=>
 (bif b5 then(some (0,(false,(i:Int))))
 else(Option.bind (Ga L (x.E) ((a1.getD (Int.toNat (i:Int)) default).E)) λr6=>
 (Option.bind (bif (!r6) then(some true)
 else(Option.bind (Ga L (x.F) ((a1.getD (Int.toNat (i:Int)) default).F)) λr8=>
 (some (!r8)))) λb7=>
 (Option.bind (bif b7 then(some true)
 else(Option.bind (Ac8 L (x.bR) ((a1.getD (Int.toNat (i:Int)) default).bR)) λr10=>
 (some (!r10)))) λb9=>
 (bif b9 then(some (0,(false,(i:Int))))
 else(Option.bind (F1 L a0 a1 (i:Int) L Bl 0) λo12=>
 (Atz o12.1 [(some (0,(o12.2.1,(i:Int)))),(Hy L a0 a1 k (i+1) o12.2.1)])))))))) (bif b4 then true
 else((x.aS.length:Int) != (((a1.getD (Int.toNat (i:Int)) default).aS).length:Int))))) (bif b3 then true
 else(!(x.bZ == (a1.getD (Int.toNat (i:Int)) default).bZ))))) (bif b2 then true
 else(x.C != (a1.getD (Int.toNat (i:Int)) default).C)))) (bif b1 then true
 else(x.B != (a1.getD (Int.toNat (i:Int)) default).B)))) (bif (x.Op != (a1.getD (Int.toNat (i:Int)) default).Op)then true
 else(x.A != (a1.getD (Int.toNat (i:Int)) default).A)))else none)
theorem Akq(L:Nat)(a0:List Ae)(a1:List Ae)(n:Nat)(hl:a0.length<=maxLen)(hn:a0.length<n):∀(Bl:Bool),Hw L a0 a1 n Bl 0=Hy L a0 a1 a0 0 Bl:=lQ (λk i n=>∀(Bl:Bool),Hw L a0 a1 n Bl (i:Int)=Hy L a0 a1 k i Bl) hl hn (λn i h Bl=>by simp only[Hw,Wb,Ql,Qi,Hy,I5 h,aN,aB,aC]) (λn i x k h hx ih Bl=>by simp only[Hw,Wb,Ql,Qi,Hy,I4 h,Ua h,hx,B2 h hl,ih,aN,aB,aC])
end Go.Proofs.YtgacplpjamkieaaGreat.Ev
