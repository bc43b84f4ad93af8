import Derived.Test.YtgacplpjamkieaaGreatHG1
import Derived.Test.YtgacplpjamkieaaGreatHFW
import Derived.Test.YtgacplpjamkieaaGreatHG2
import Derived.Test.YtgacplpjamkieaaGreatHG3
import Derived.Test.YtgacplpjamkieaaGreatHG4
import Derived.Test.YtgacplpjamkieaaGreatHG5
import Derived.Test.YtgacplpjamkieaaGreatHG6
import Derived.Test.YtgacplpjamkieaaGreatHG7
import Derived.Test.YtgacplpjamkieaaGreatHG8
import Derived.Test.YtgacplpjamkieaaGreatHG9
import Derived.Test.YtgacplpjamkieaaGreatHG10
import Derived.Test.YtgacplpjamkieaaGreatHG11
set_option maxRecDepth 100000
set_option maxHeartbeats 4000000
set_option linter.unusedVariables false
set_option linter.unusedSimpArgs false
set_option linter.unnecessarySimpa false
namespace Go.Proofs.YtgacplpjamkieaaGreat.Ev
open Go An
theorem aC:(∀i:Nat,(0<=(i:Int))=True)/\(∀i:Nat,Int.toNat (i:Int)=i)/\(∀ {α :Type} (a b: α),cond true a b=a)/\(∀ {α :Type} (a b: α),cond false a b=b)/\(∀ {α :Type} (a b: α),(if True then a else b)=a)/\(∀h:Decidable True,@decide True h=true)/\(∀x:Aa,Aa.mk x.Op x.aD x.N x.aQ=x)/\(∀x:Aa,Aa.cp x=x)/\(∀x:Ae,Ae.mk x.Op x.aD x.Of x.E x.F x.bM x.bW x.cZ x.cK x.dM=x)/\(∀x:Ae,Ae.cp x=x):=⟨nn,toN,λ_ _=>rfl,λ_ _=>rfl,λ_ _=>if_true ..,decide_true,Aa.eta,Aa.cp_eq,Ae.eta,Ae.cp_eq⟩
def Da(L:Nat)(a0:List Yb)(a1:Yb):List Yb->Nat->Int->Option (Nat×Int×Int)
 | [],i,Az=>(some (1,(Az,(i:Int))))
 |x::k,i,Az=>(bif (a1.toList == x.toList) then(some (0,((i:Int),(i:Int))))
 else(Da L a0 a1 k (i+1) Az))
theorem Yw(L:Nat)(a0:List Yb)(a1:Yb)(n:Nat)(hl:a0.length<=maxLen)(hn:a0.length<n):∀(Az:Int),C8 L a0 a1 n Az 0=Da L a0 a1 a0 0 Az:=lQ (λk i n=>∀(Az:Int),C8 L a0 a1 n Az (i:Int)=Da L a0 a1 k i Az) hl hn (λn i h Az=>by simp only[C8,Hj,Da,O5 h,aN,aB,aC]) (λn i x k h hx ih Az=>by simp only[C8,Hj,Da,Np h,ltI h,hx,Cg h hl,ih,aN,aB,aC])
def Im(H3:Aa->Option Int)(L:Nat)(a0:Aa):List Aa->Nat->Int->Option (Nat×Int×Int)
 | [],i,Aq=>(some (0,(Aq,(i:Int))))
 |x::k,i,Aq=>(Option.bind (H3 x) λr1=>
 (Im H3 L a0 k (i+1) (Cp (Aq+r1))))
theorem Amh(H3:Aa->Option Int)(L:Nat)(a0:Aa)(n:Nat)(hl:a0.aQ.length<=maxLen)(hn:a0.aQ.length<n):∀(Aq:Int),Ih H3 L a0 n Aq 0=Im H3 L a0 a0.aQ 0 Aq:=lQ (λk i n=>∀(Aq:Int),Ih H3 L a0 n Aq (i:Int)=Im H3 L a0 k i Aq) hl hn (λn i h Aq=>by simp only[Ih,Pv,Im,O5 h,aN,aB,aC]) (λn i x k h hx ih Aq=>by simp only[Ih,Pv,Im,Np h,ltI h,hx,Cg h hl,ih,aN,aB,aC])
def Il(H6:Aa->Option Int)(L:Nat)(a0:Aa):List Aa->Nat->Int->Option (Nat×Int×Int)
 | [],i,Aq=>(some (0,(Aq,(i:Int))))
 |x::k,i,Aq=>(Option.bind (H6 x) λr1=>
 (Il H6 L a0 k (i+1) (if r1>Aq then r1 else Aq)))
theorem Amg(H6:Aa->Option Int)(L:Nat)(a0:Aa)(n:Nat)(hl:a0.aQ.length<=maxLen)(hn:a0.aQ.length<n):∀(Aq:Int),Ig H6 L a0 n Aq 0=Il H6 L a0 a0.aQ 0 Aq:=lQ (λk i n=>∀(Aq:Int),Ig H6 L a0 n Aq (i:Int)=Il H6 L a0 k i Aq) hl hn (λn i h Aq=>by simp only[Ig,Pu,Il,O5 h,aN,aB,aC]) (λn i x k h hx ih Aq=>by simp only[Ig,Pu,Il,Np h,ltI h,hx,Cg h hl,ih,aN,aB,aC])
def Dn(Dz:Bg->Aa->Option Int)(L:Nat)(a1:Aa)(a0:Bg):List Aa->Nat->Int->Option (Nat×Int×Int)
 | [],i,A9=>(some (1,(A9,(i:Int))))
 |x::k,i,A9=>(Option.bind (Dz (⟨a0.bE⟩:Bg) x) λr2=>
 (bif (r2 != 0) then(some (0,(r2,(i:Int))))
 else(Dn Dz L a1 a0 k (i+1) A9)))
theorem Ae5(Dz:Bg->Aa->Option Int)(L:Nat)(a1:Aa)(a0:Bg)(n:Nat)(hl:a1.aQ.length<=maxLen)(hn:a1.aQ.length<n):∀(A9:Int),Eb Dz L a1 a0 n A9 0=Dn Dz L a1 a0 a1.aQ 0 A9:=lQ (λk i n=>∀(A9:Int),Eb Dz L a1 a0 n A9 (i:Int)=Dn Dz L a1 a0 k i A9) hl hn (λn i h A9=>by simp only[Eb,J2,Dn,O5 h,aN,aB,aC]) (λn i x k h hx ih A9=>by simp only[Eb,J2,Dn,Np h,ltI h,hx,Cg h hl,ih,aN,aB,aC])
def Ew(L:Nat)(p1_0:List Am)(p1_1:Ab)(p1_2:Yb):List Am->Nat->Int->Option (Nat×Int×Int)
 | [],i,Aq=>(some (1,(Aq,(i:Int))))
 |x::k,i,Aq=>(bif (x.aD.toList == p1_2.toList) then(some (0,((i:Int),(i:Int))))
 else(Ew L p1_0 p1_1 p1_2 k (i+1) Aq))
theorem Ahe(L:Nat)(p1_0:List Am)(p1_1:Ab)(p1_2:Yb)(n:Nat)(hl:p1_0.length<=maxLen)(hn:p1_0.length<n):∀(Aq:Int),Eu L p1_0 p1_1 p1_2 n Aq 0=Ew L p1_0 p1_1 p1_2 p1_0 0 Aq:=lQ (λk i n=>∀(Aq:Int),Eu L p1_0 p1_1 p1_2 n Aq (i:Int)=Ew L p1_0 p1_1 p1_2 k i Aq) hl hn (λn i h Aq=>by simp only[Eu,Lg,Ew,O5 h,aN,aB,aC]) (λn i x k h hx ih Aq=>by simp only[Eu,Lg,Ew,Np h,ltI h,hx,Cg h hl,ih,aN,aB,aC])
def Hb(L:Nat)(a1:Yb)(a0:Ao):List Ag->Nat->Int->Bool->Option (Nat×Int×Bool×Int)
 | [],i,Aq,Az=>(some (1,(Aq,Az,(i:Int))))
 |x::k,i,Aq,Az=>(bif (x.aD.toList == a1.toList) then(some (0,((x.bL),true,(i:Int))))
 else(Hb L a1 a0 k (i+1) Aq Az))
theorem Akk(L:Nat)(a1:Yb)(a0:Ao)(n:Nat)(hl:a0.aF.aX.length<=maxLen)(hn:a0.aF.aX.length<n):∀(Aq:Int) (Az:Bool),Gt L a1 a0 n Aq Az 0=Hb L a1 a0 a0.aF.aX 0 Aq Az:=lQ (λk i n=>∀(Aq:Int) (Az:Bool),Gt L a1 a0 n Aq Az (i:Int)=Hb L a1 a0 k i Aq Az) hl hn (λn i h Aq Az=>by simp only[Gt,N0,Hb,O5 h,aN,aB,aC]) (λn i x k h hx ih Aq Az=>by simp only[Gt,N0,Hb,Np h,ltI h,hx,Cg h hl,ih,aN,aB,aC])
def Hc(L:Nat)(a1:Yb)(a0:Ao):List Ag->Nat->Int->Bool->Option (Nat×Int×Bool×Int)
 | [],i,Gb,Ae7=>(some (1,(Gb,Ae7,(i:Int))))
 |x::k,i,Gb,Ae7=>(bif (x.aD.toList == a1.toList) then(some (0,((x.bL),true,(i:Int))))
 else(Hc L a1 a0 k (i+1) Gb Ae7))
theorem Akl(L:Nat)(a1:Yb)(a0:Ao)(n:Nat)(hl:a0.aK.length<=maxLen)(hn:a0.aK.length<n):∀(Gb:Int) (Ae7:Bool),Gu L a1 a0 n Gb Ae7 0=Hc L a1 a0 a0.aK 0 Gb Ae7:=lQ (λk i n=>∀(Gb:Int) (Ae7:Bool),Gu L a1 a0 n Gb Ae7 (i:Int)=Hc L a1 a0 k i Gb Ae7) hl hn (λn i h Gb Ae7=>by simp only[Gu,N1,Hc,O5 h,aN,aB,aC]) (λn i x k h hx ih Gb Ae7=>by simp only[Gu,N1,Hc,Np h,ltI h,hx,Cg h hl,ih,aN,aB,aC])
def Gx(L:Nat)(p1_0:List Ag)(p1_1:Ab)(p1_2:Yb):List Ag->Nat->Int->Option (Nat×Int×Int)
 | [],i,Aq=>(some (1,(Aq,(i:Int))))
 |x::k,i,Aq=>(bif (x.aD.toList == p1_2.toList) then(some (0,((i:Int),(i:Int))))
 else(Gx L p1_0 p1_1 p1_2 k (i+1) Aq))
theorem Akg(L:Nat)(p1_0:List Ag)(p1_1:Ab)(p1_2:Yb)(n:Nat)(hl:p1_0.length<=maxLen)(hn:p1_0.length<n):∀(Aq:Int),Gn L p1_0 p1_1 p1_2 n Aq 0=Gx L p1_0 p1_1 p1_2 p1_0 0 Aq:=lQ (λk i n=>∀(Aq:Int),Gn L p1_0 p1_1 p1_2 n Aq (i:Int)=Gx L p1_0 p1_1 p1_2 k i Aq) hl hn (λn i h Aq=>by simp only[Gn,Nw,Gx,O5 h,aN,aB,aC]) (λn i x k h hx ih Aq=>by simp only[Gn,Nw,Gx,Np h,ltI h,hx,Cg h hl,ih,aN,aB,aC])
def Gy(L:Nat)(p2_0:List Ai)(p2_1:Ab)(p2_2:Yb):List Ai->Nat->Int->Option (Nat×Int×Int)
 | [],i,Gb=>(some (1,(Gb,(i:Int))))
 |x::k,i,Gb=>(bif (x.aD.toList == p2_2.toList) then(some (0,((i:Int),(i:Int))))
 else(Gy L p2_0 p2_1 p2_2 k (i+1) Gb))
theorem Akh(L:Nat)(p2_0:List Ai)(p2_1:Ab)(p2_2:Yb)(n:Nat)(hl:p2_0.length<=maxLen)(hn:p2_0.length<n):∀(Gb:Int),Gp L p2_0 p2_1 p2_2 n Gb 0=Gy L p2_0 p2_1 p2_2 p2_0 0 Gb:=lQ (λk i n=>∀(Gb:Int),Gp L p2_0 p2_1 p2_2 n Gb (i:Int)=Gy L p2_0 p2_1 p2_2 k i Gb) hl hn (λn i h Gb=>by simp only[Gp,Nx,Gy,O5 h,aN,aB,aC]) (λn i x k h hx ih Gb=>by simp only[Gp,Nx,Gy,Np h,ltI h,hx,Cg h hl,ih,aN,aB,aC])
def Gz(L:Nat)(p3_0:List Ak)(p3_1:Ab)(p3_2:Yb):List Ak->Nat->Int->Option (Nat×Int×Int)
 | [],i,Qu=>(some (1,(Qu,(i:Int))))
 |x::k,i,Qu=>(bif (x.aD.toList == p3_2.toList) then(some (0,((i:Int),(i:Int))))
 else(Gz L p3_0 p3_1 p3_2 k (i+1) Qu))
theorem Aki(L:Nat)(p3_0:List Ak)(p3_1:Ab)(p3_2:Yb)(n:Nat)(hl:p3_0.length<=maxLen)(hn:p3_0.length<n):∀(Qu:Int),Gq L p3_0 p3_1 p3_2 n Qu 0=Gz L p3_0 p3_1 p3_2 p3_0 0 Qu:=lQ (λk i n=>∀(Qu:Int),Gq L p3_0 p3_1 p3_2 n Qu (i:Int)=Gz L p3_0 p3_1 p3_2 k i Qu) hl hn (λn i h Qu=>by simp only[Gq,Ny,Gz,O5 h,aN,aB,aC]) (λn i x k h hx ih Qu=>by simp only[Gq,Ny,Gz,Np h,ltI h,hx,Cg h hl,ih,aN,aB,aC])
def Ha(L:Nat)(p4_0:List Av)(p4_1:Ab)(p4_2:Yb):List Av->Nat->Int->Option (Nat×Int×Int)
 | [],i,Qv=>(some (1,(Qv,(i:Int))))
 |x::k,i,Qv=>(bif (x.aD.toList == p4_2.toList) then(some (0,((i:Int),(i:Int))))
 else(Ha L p4_0 p4_1 p4_2 k (i+1) Qv))
theorem Akj(L:Nat)(p4_0:List Av)(p4_1:Ab)(p4_2:Yb)(n:Nat)(hl:p4_0.length<=maxLen)(hn:p4_0.length<n):∀(Qv:Int),Gr L p4_0 p4_1 p4_2 n Qv 0=Ha L p4_0 p4_1 p4_2 p4_0 0 Qv:=lQ (λk i n=>∀(Qv:Int),Gr L p4_0 p4_1 p4_2 n Qv (i:Int)=Ha L p4_0 p4_1 p4_2 k i Qv) hl hn (λn i h Qv=>by simp only[Gr,Nz,Ha,O5 h,aN,aB,aC]) (λn i x k h hx ih Qv=>by simp only[Gr,Nz,Ha,Np h,ltI h,hx,Cg h hl,ih,aN,aB,aC])
def E5(H7:Ao->Aa->Option (Int×Int))(L:Nat)(a1:Aa)(a0:Ao):List Aa->Nat->Int->Int->List Int->Option (Nat×Int×Int×List Int×Int)
 | [],i,A9,Aq,Az=>(some (1,(A9,Aq,Az,(i:Int))))
 |x::k,i,A9,Aq,Az=>(Option.bind (H7 a0 x) λr1=>
 (bif (r1.2 != 0) then(some (0,(0,r1.2,Az,(i:Int))))
 else(if((Az.length+ [r1.1].length)*8<=140737488355328) then(if(Az.length+ [r1.1].length<=maxLen) then(E5 H7 L a1 a0 k (i+1) A9 Aq (Az++ [r1.1]))else none)else none)))
theorem Akm(H7:Ao->Aa->Option (Int×Int))(L:Nat)(a1:Aa)(a0:Ao)(n:Nat)(hl:a1.aQ.length<=maxLen)(hn:a1.aQ.length<n):∀(A9:Int) (Aq:Int) (Az:List Int),Gv H7 L a1 a0 n A9 Aq Az 0=E5 H7 L a1 a0 a1.aQ 0 A9 Aq Az:=lQ (λk i n=>∀(A9:Int) (Aq:Int) (Az:List Int),Gv H7 L a1 a0 n A9 Aq Az (i:Int)=E5 H7 L a1 a0 k i A9 Aq Az) hl hn (λn i h A9 Aq Az=>by simp only[Gv,N2,E5,O5 h,aN,aB,aC]) (λn i x k h hx ih A9 Aq Az=>by simp only[Gv,N2,E5,Np h,ltI h,hx,Cg h hl,ih,aN,aB,aC])
def Co(L:Nat)(p1_0:List Ag)(p1_1:Yb):List Ag->Nat->Int->Option (Nat×Int×Int)
 | [],i,Aq=>(some (1,(Aq,(i:Int))))
 |x::k,i,Aq=>(bif (x.aD.toList == p1_1.toList) then(some (0,((i:Int),(i:Int))))
 else(Co L p1_0 p1_1 k (i+1) Aq))
theorem V1(L:Nat)(p1_0:List Ag)(p1_1:Yb)(n:Nat)(hl:p1_0.length<=maxLen)(hn:p1_0.length<n):∀(Aq:Int),Cn L p1_0 p1_1 n Aq 0=Co L p1_0 p1_1 p1_0 0 Aq:=lQ (λk i n=>∀(Aq:Int),Cn L p1_0 p1_1 n Aq (i:Int)=Co L p1_0 p1_1 k i Aq) hl hn (λn i h Aq=>by simp only[Cn,E7,Co,O5 h,aN,aB,aC]) (λn i x k h hx ih Aq=>by simp only[Cn,E7,Co,Np h,ltI h,hx,Cg h hl,ih,aN,aB,aC])
def C9(Ec:Ac->Aa->Option (Aa×Ac))(Ed:Ac->(List Aa)->Option ((List Aa)×Ac))(L:Nat)(a1:List Aa):List Aa->Nat->List Aa->Yb->List Ag->List Ab->List Bs->List Ag->List Aw->Yb->List Ag->List Ai->List Ak->List Av->List Yb->List Yb->List Yb->List Yb->List Yb->List Am->List Bq->List Bh->Int->Option (Nat×List Aa×Int×Yb×List Ag×List Ab×List Bs×List Ag×List Aw×Yb×List Ag×List Ai×List Ak×List Av×List Yb×List Yb×List Yb×List Yb×List Yb×List Am×List Bq×List Bh×Int)
 | [],i,Aq,Gl,Wd,We,D2,D3,Lw,Lx,Ly,Lz,L1,D5,L2,Dc,Dd,L3,Dp,Dt,Df,B6,Hg=>(some (0,(Aq,(i:Int),Gl,Wd,We,D2,D3,Lw,Lx,Ly,Lz,L1,D5,L2,Dc,Dd,L3,Dp,Dt,Df,B6,Hg)))
 |x::k,i,Aq,Gl,Wd,We,D2,D3,Lw,Lx,Ly,Lz,L1,D5,L2,Dc,Dd,L3,Dp,Dt,Df,B6,Hg=>(Option.bind (Ec (⟨(⟨Gl,Wd,We,D2⟩:Al),(⟨D3,Lw,(⟨Lx,Ly,Lz,L1,D5,L2,Dc,Dd,L3,Dp,Dt,Df,B6⟩:Ab)⟩:Ao),Hg⟩:Ac) x) λr1=>
 (if((Aq.length+ [r1.1].length)*56<=140737488355328) then(if(Aq.length+ [r1.1].length<=maxLen) then(C9 Ec Ed L a1 k (i+1) (Aq++ [r1.1]) r1.2.bK.aD r1.2.bK.aK r1.2.bK.aU r1.2.bK.bJ r1.2.aA.aK r1.2.aA.aP r1.2.aA.aF.aD r1.2.aA.aF.aX r1.2.aA.aF.aI r1.2.aA.aF.aJ r1.2.aA.aF.aZ r1.2.aA.aF.aV r1.2.aA.aF.aR r1.2.aA.aF.aS r1.2.aA.aF.aW r1.2.aA.aF.aT r1.2.aA.aF.aG r1.2.aA.aF.bB r1.2.aA.aF.Laws r1.2.bQ)else none)else none))
theorem Yv(Ec:Ac->Aa->Option (Aa×Ac))(Ed:Ac->(List Aa)->Option ((List Aa)×Ac))(L:Nat)(a1:List Aa)(n:Nat)(hl:a1.length<=maxLen)(hn:a1.length<n):∀(Aq:List Aa) (Gl:Yb) (Wd:List Ag) (We:List Ab) (D2:List Bs) (D3:List Ag) (Lw:List Aw) (Lx:Yb) (Ly:List Ag) (Lz:List Ai) (L1:List Ak) (D5:List Av) (L2:List Yb) (Dc:List Yb) (Dd:List Yb) (L3:List Yb) (Dp:List Yb) (Dt:List Am) (Df:List Bq) (B6:List Bh) (Hg:Int),C7 Ec Ed L a1 n Aq 0 Gl Wd We D2 D3 Lw Lx Ly Lz L1 D5 L2 Dc Dd L3 Dp Dt Df B6 Hg=C9 Ec Ed L a1 a1 0 Aq Gl Wd We D2 D3 Lw Lx Ly Lz L1 D5 L2 Dc Dd L3 Dp Dt Df B6 Hg:=lQ (λk i n=>∀(Aq:List Aa) (Gl:Yb) (Wd:List Ag) (We:List Ab) (D2:List Bs) (D3:List Ag) (Lw:List Aw) (Lx:Yb) (Ly:List Ag) (Lz:List Ai) (L1:List Ak) (D5:List Av) (L2:List Yb) (Dc:List Yb) (Dd:List Yb) (L3:List Yb) (Dp:List Yb) (Dt:List Am) (Df:List Bq) (B6:List Bh) (Hg:Int),C7 Ec Ed L a1 n Aq (i:Int) Gl Wd We D2 D3 Lw Lx Ly Lz L1 D5 L2 Dc Dd L3 Dp Dt Df B6 Hg=C9 Ec Ed L a1 k i Aq Gl Wd We D2 D3 Lw Lx Ly Lz L1 D5 L2 Dc Dd L3 Dp Dt Df B6 Hg) hl hn (λn i h Aq Gl Wd We D2 D3 Lw Lx Ly Lz L1 D5 L2 Dc Dd L3 Dp Dt Df B6 Hg=>by simp only[C7,Hi,C9,O5 h,aN,aB,aC]) (λn i x k h hx ih Aq Gl Wd We D2 D3 Lw Lx Ly Lz L1 D5 L2 Dc Dd L3 Dp Dt Df B6 Hg=>by simp only[C7,Hi,C9,Np h,ltI h,hx,Cg h hl,ih,aN,aB,aC])
def Jp(Eh:Aa->Option Int)(L:Nat)(a0:Aa):List Aa->Nat->Int->Option (Nat×Int×Int)
 | [],i,Aq=>(some (0,(Aq,(i:Int))))
 |x::k,i,Aq=>(Option.bind (Eh x) λr1=>
 (Jp Eh L a0 k (i+1) (Cp (Aq+r1))))
theorem Apb(Eh:Aa->Option Int)(L:Nat)(a0:Aa)(n:Nat)(hl:a0.aQ.length<=maxLen)(hn:a0.aQ.length<n):∀(Aq:Int),Je Eh L a0 n Aq 0=Jp Eh L a0 a0.aQ 0 Aq:=lQ (λk i n=>∀(Aq:Int),Je Eh L a0 n Aq (i:Int)=Jp Eh L a0 k i Aq) hl hn (λn i h Aq=>by simp only[Je,Rz,Jp,O5 h,aN,aB,aC]) (λn i x k h hx ih Aq=>by simp only[Je,Rz,Jp,Np h,ltI h,hx,Cg h hl,ih,aN,aB,aC])
def Jo(Ei:Aa->Option Int)(L:Nat)(a0:Aa):List Aa->Nat->Int->Option (Nat×Int×Int)
 | [],i,Aq=>(some (0,(Aq,(i:Int))))
 |x::k,i,Aq=>(Option.bind (Ei x) λr1=>
 (Jo Ei L a0 k (i+1) (if r1>Aq then r1 else Aq)))
theorem Apa(Ei:Aa->Option Int)(L:Nat)(a0:Aa)(n:Nat)(hl:a0.aQ.length<=maxLen)(hn:a0.aQ.length<n):∀(Aq:Int),Jd Ei L a0 n Aq 0=Jo Ei L a0 a0.aQ 0 Aq:=lQ (λk i n=>∀(Aq:Int),Jd Ei L a0 n Aq (i:Int)=Jo Ei L a0 k i Aq) hl hn (λn i h Aq=>by simp only[Jd,Ry,Jo,O5 h,aN,aB,aC]) (λn i x k h hx ih Aq=>by simp only[Jd,Ry,Jo,Np h,ltI h,hx,Cg h hl,ih,aN,aB,aC])
def Kd(L:Nat)(a0:List Yb)(a1:Yb):List Yb->Nat->Int->Option (Nat×Int×Int)
 | [],i,Az=>(some (1,(Az,(i:Int))))
 |x::k,i,Az=>(bif (x.toList == a1.toList) then(some (0,((i:Int),(i:Int))))
 else(Kd L a0 a1 k (i+1) Az))
theorem Aru(L:Nat)(a0:List Yb)(a1:Yb)(n:Nat)(hl:a0.length<=maxLen)(hn:a0.length<n):∀(Az:Int),J8 L a0 a1 n Az 0=Kd L a0 a1 a0 0 Az:=lQ (λk i n=>∀(Az:Int),J8 L a0 a1 n Az (i:Int)=Kd L a0 a1 k i Az) hl hn (λn i h Az=>by simp only[J8,Ue,Kd,O5 h,aN,aB,aC]) (λn i x k h hx ih Az=>by simp only[J8,Ue,Kd,Np h,ltI h,hx,Cg h hl,ih,aN,aB,aC])
def I4(Bb:Aa->Bool->Option Int)(L:Nat)(a1:Bool)(a0:Aa):List Aa->Nat->Int->Option (Nat×Int×Int)
 | [],i,Aq=>(some (1,(Aq,(i:Int))))
 |x::k,i,Aq=>(Option.bind (Bb x a1) λr22=>
 (bif (r22 != 0) then(some (0,(r22,(i:Int))))
 else(I4 Bb L a1 a0 k (i+1) Aq)))
theorem Arv(Bb:Aa->Bool->Option Int)(L:Nat)(a1:Bool)(a0:Aa)(n:Nat)(hl:a0.aQ.length<=maxLen)(hn:a0.aQ.length<n):∀(Aq:Int),I3 Bb L a1 a0 n Aq 0=I4 Bb L a1 a0 a0.aQ 0 Aq:=lQ (λk i n=>∀(Aq:Int),I3 Bb L a1 a0 n Aq (i:Int)=I4 Bb L a1 a0 k i Aq) hl hn (λn i h Aq=>by simp only[I3,Uf,I4,O5 h,aN,aB,aC]) (λn i x k h hx ih Aq=>by simp only[I3,Uf,I4,Np h,ltI h,hx,Cg h hl,ih,aN,aB,aC])
def Hr(L:Nat)(a0:Ab):List Ag->Nat->List Yb->Option (Nat×Int×List Yb)
 | [],i,D5=>(some (0,((i:Int),D5)))
 |x::k,i,D5=>(if((0:Int)<=0) then(if(0<((10:Nat):Int)) then(if((D5.length+ [x.aD].length)*16<=140737488355328) then(if(D5.length+ [x.aD].length<=maxLen) then(if((0:Int)<=0) then(if(0<((10:Nat):Int)) then(Hr L a0 k (i+1) (D5++ [x.aD]))else none)else none)else none)else none)else none)else none)
theorem Apd(L:Nat)(a0:Ab)(n:Nat)(hl:a0.aX.length<=maxLen)(hn:a0.aX.length<n):∀(D5:List Yb),Jg L a0 n 0 D5=Hr L a0 a0.aX 0 D5:=lQ (λk i n=>∀(D5:List Yb),Jg L a0 n (i:Int) D5=Hr L a0 k i D5) hl hn (λn i h D5=>by simp only[Jg,R2,Hr,O5 h,aN,aB,aC]) (λn i x k h hx ih D5=>by simp only[Jg,R2,Hr,Np h,ltI h,hx,Cg h hl,ih,aN,aB,aC])
def Hs(L:Nat)(a0:Ab)(o1:Nat×Int×List Yb):List Ai->Nat->List Yb->Option (Nat×Int×List Yb)
 | [],i,Ol=>(some (0,((i:Int),Ol)))
 |x::k,i,Ol=>(if((0:Int)<=1) then(if(1<((10:Nat):Int)) then(if((Ol.length+ [x.aD].length)*16<=140737488355328) then(if(Ol.length+ [x.aD].length<=maxLen) then(if((0:Int)<=1) then(if(1<((10:Nat):Int)) then(Hs L a0 o1 k (i+1) (Ol++ [x.aD]))else none)else none)else none)else none)else none)else none)
theorem Ape(L:Nat)(a0:Ab)(o1:Nat×Int×List Yb)(n:Nat)(hl:a0.aI.length<=maxLen)(hn:a0.aI.length<n):∀(Ol:List Yb),Jh L a0 o1 n 0 Ol=Hs L a0 o1 a0.aI 0 Ol:=lQ (λk i n=>∀(Ol:List Yb),Jh L a0 o1 n (i:Int) Ol=Hs L a0 o1 k i Ol) hl hn (λn i h Ol=>by simp only[Jh,R3,Hs,O5 h,aN,aB,aC]) (λn i x k h hx ih Ol=>by simp only[Jh,R3,Hs,Np h,ltI h,hx,Cg h hl,ih,aN,aB,aC])
def Ht(L:Nat)(a0:Ab)(o1:Nat×Int×List Yb)(o2:Nat×Int×List Yb):List Ak->Nat->List Yb->Option (Nat×Int×List Yb)
 | [],i,Gd=>(some (0,((i:Int),Gd)))
 |x::k,i,Gd=>(if((0:Int)<=2) then(if(2<((10:Nat):Int)) then(if((Gd.length+ [x.aD].length)*16<=140737488355328) then(if(Gd.length+ [x.aD].length<=maxLen) then(if((0:Int)<=2) then(if(2<((10:Nat):Int)) then(Ht L a0 o1 o2 k (i+1) (Gd++ [x.aD]))else none)else none)else none)else none)else none)else none)
theorem Apf(L:Nat)(a0:Ab)(o1:Nat×Int×List Yb)(o2:Nat×Int×List Yb)(n:Nat)(hl:a0.aJ.length<=maxLen)(hn:a0.aJ.length<n):∀(Gd:List Yb),Ji L a0 o1 o2 n 0 Gd=Ht L a0 o1 o2 a0.aJ 0 Gd:=lQ (λk i n=>∀(Gd:List Yb),Ji L a0 o1 o2 n (i:Int) Gd=Ht L a0 o1 o2 k i Gd) hl hn (λn i h Gd=>by simp only[Ji,R4,Ht,O5 h,aN,aB,aC]) (λn i x k h hx ih Gd=>by simp only[Ji,R4,Ht,Np h,ltI h,hx,Cg h hl,ih,aN,aB,aC])
def Hu(L:Nat)(a0:Ab)(o1:Nat×Int×List Yb)(o2:Nat×Int×List Yb)(o3:Nat×Int×List Yb):List Av->Nat->List Yb->Option (Nat×Int×List Yb)
 | [],i,Ge=>(some (0,((i:Int),Ge)))
 |x::k,i,Ge=>(if((0:Int)<=3) then(if(3<((10:Nat):Int)) then(if((Ge.length+ [x.aD].length)*16<=140737488355328) then(if(Ge.length+ [x.aD].length<=maxLen) then(if((0:Int)<=3) then(if(3<((10:Nat):Int)) then(Hu L a0 o1 o2 o3 k (i+1) (Ge++ [x.aD]))else none)else none)else none)else none)else none)else none)
theorem Apg(L:Nat)(a0:Ab)(o1:Nat×Int×List Yb)(o2:Nat×Int×List Yb)(o3:Nat×Int×List Yb)(n:Nat)(hl:a0.aZ.length<=maxLen)(hn:a0.aZ.length<n):∀(Ge:List Yb),Jj L a0 o1 o2 o3 n 0 Ge=Hu L a0 o1 o2 o3 a0.aZ 0 Ge:=lQ (λk i n=>∀(Ge:List Yb),Jj L a0 o1 o2 o3 n (i:Int) Ge=Hu L a0 o1 o2 o3 k i Ge) hl hn (λn i h Ge=>by simp only[Jj,R5,Hu,O5 h,aN,aB,aC]) (λn i x k h hx ih Ge=>by simp only[Jj,R5,Hu,Np h,ltI h,hx,Cg h hl,ih,aN,aB,aC])
def Hv(L:Nat)(a0:Ab)(o1:Nat×Int×List Yb)(o2:Nat×Int×List Yb)(o3:Nat×Int×List Yb)(o4:Nat×Int×List Yb):List Am->Nat->List Yb->Option (Nat×Int×List Yb)
 | [],i,Om=>(some (0,((i:Int),Om)))
 |x::k,i,Om=>(if((0:Int)<=9) then(if(9<((10:Nat):Int)) then(if((Om.length+ [x.aD].length)*16<=140737488355328) then(if(Om.length+ [x.aD].length<=maxLen) then(if((0:Int)<=9) then(if(9<((10:Nat):Int)) then(Hv L a0 o1 o2 o3 o4 k (i+1) (Om++ [x.aD]))else none)else none)else none)else none)else none)else none)
theorem Aph(L:Nat)(a0:Ab)(o1:Nat×Int×List Yb)(o2:Nat×Int×List Yb)(o3:Nat×Int×List Yb)(o4:Nat×Int×List Yb)(n:Nat)(hl:a0.aG.length<=maxLen)(hn:a0.aG.length<n):∀(Om:List Yb),Jk L a0 o1 o2 o3 o4 n 0 Om=Hv L a0 o1 o2 o3 o4 a0.aG 0 Om:=lQ (λk i n=>∀(Om:List Yb),Jk L a0 o1 o2 o3 o4 n (i:Int) Om=Hv L a0 o1 o2 o3 o4 k i Om) hl hn (λn i h Om=>by simp only[Jk,R6,Hv,O5 h,aN,aB,aC]) (λn i x k h hx ih Om=>by simp only[Jk,R6,Hv,Np h,ltI h,hx,Cg h hl,ih,aN,aB,aC])
def L7(L:Nat)(a1:Yb)(r1:List (List Yb))(a0:Ab):List ((List Yb))->Nat->Yb->Option (Nat×Yb×Int)
 | [],i,Aq=>(some (1,(Aq,(i:Int))))
 |x::k,i,Aq=>(Option.bind (Ib L x a1) λr2=>
 (bif (decide (r2>=0)) then(if((i:Int)<(([(⟨#[118,97,114]⟩:Yb),(⟨#[114,101,115,111,117,114,99,101]⟩:Yb),(⟨#[115,116,111,114,101]⟩:Yb),(⟨#[98,101,108,116]⟩:Yb),(⟨#[113,117,101,117,101]⟩:Yb),(⟨#[115,116,114,101,97,109]⟩:Yb),(⟨#[116,97,108,108,121]⟩:Yb),(⟨#[108,101,118,101,108]⟩:Yb),(⟨#[99,111,117,110,116]⟩:Yb),(⟨#[114,111,117,116,105,110,101]⟩:Yb)].length:Nat):Int)) then(some (0,(([(⟨#[118,97,114]⟩:Yb),(⟨#[114,101,115,111,117,114,99,101]⟩:Yb),(⟨#[115,116,111,114,101]⟩:Yb),(⟨#[98,101,108,116]⟩:Yb),(⟨#[113,117,101,117,101]⟩:Yb),(⟨#[115,116,114,101,97,109]⟩:Yb),(⟨#[116,97,108,108,121]⟩:Yb),(⟨#[108,101,118,101,108]⟩:Yb),(⟨#[99,111,117,110,116]⟩:Yb),(⟨#[114,111,117,116,105,110,101]⟩:Yb)].getD (Int.toNat (i:Int)) default),(i:Int))))else none)
 else(L7 L a1 r1 a0 k (i+1) Aq)))
theorem Arw(L:Nat)(a1:Yb)(r1:List (List Yb))(a0:Ab)(n:Nat)(hl:r1.length<=maxLen)(hn:r1.length<n):∀(Aq:Yb),J9 L a1 r1 a0 n Aq 0=L7 L a1 r1 a0 r1 0 Aq:=lQ (λk i n=>∀(Aq:Yb),J9 L a1 r1 a0 n Aq (i:Int)=L7 L a1 r1 a0 k i Aq) hl hn (λn i h Aq=>by simp only[J9,Ug,L7,O5 h,aN,aB,aC]) (λn i x k h hx ih Aq=>by simp only[J9,Ug,L7,Np h,ltI h,hx,Cg h hl,ih,aN,aB,aC])
def Ik(L:Nat)(a0:List Ag)(a1:Yb):List Ag->Nat->Int->Bool->Option (Nat×Int×Bool×Int)
 | [],i,Az,Aj=>(some (1,(Az,Aj,(i:Int))))
 |x::k,i,Az,Aj=>(bif (x.aD.toList == a1.toList) then(some (0,((x.bL),true,(i:Int))))
 else(Ik L a0 a1 k (i+1) Az Aj))
theorem Amf(L:Nat)(a0:List Ag)(a1:Yb)(n:Nat)(hl:a0.length<=maxLen)(hn:a0.length<n):∀(Az:Int) (Aj:Bool),Ie L a0 a1 n Az Aj 0=Ik L a0 a1 a0 0 Az Aj:=lQ (λk i n=>∀(Az:Int) (Aj:Bool),Ie L a0 a1 n Az Aj (i:Int)=Ik L a0 a1 k i Az Aj) hl hn (λn i h Az Aj=>by simp only[Ie,Pt,Ik,O5 h,aN,aB,aC]) (λn i x k h hx ih Az Aj=>by simp only[Ie,Pt,Ik,Np h,ltI h,hx,Cg h hl,ih,aN,aB,aC])
def Hw(H8:Ao->Aa->Option (Int×Int))(L:Nat)(a0:Ao)(a1:Aa):List Aa->Nat->Int->Int->List Int->Option (Nat×Int×Int×List Int×Int)
 | [],i,A9,Aq,Az=>(some (1,(A9,Aq,Az,(i:Int))))
 |x::k,i,A9,Aq,Az=>(Option.bind (H8 a0 x) λr1=>
 (bif (r1.2 != 0) then(some (0,(0,r1.2,Az,(i:Int))))
 else(if((Az.length+ [r1.1].length)*8<=140737488355328) then(if(Az.length+ [r1.1].length<=maxLen) then(Hw H8 L a0 a1 k (i+1) A9 Aq (Az++ [r1.1]))else none)else none)))
theorem Api(H8:Ao->Aa->Option (Int×Int))(L:Nat)(a0:Ao)(a1:Aa)(n:Nat)(hl:a1.aQ.length<=maxLen)(hn:a1.aQ.length<n):∀(A9:Int) (Aq:Int) (Az:List Int),Jm H8 L a0 a1 n A9 Aq Az 0=Hw H8 L a0 a1 a1.aQ 0 A9 Aq Az:=lQ (λk i n=>∀(A9:Int) (Aq:Int) (Az:List Int),Jm H8 L a0 a1 n A9 Aq Az (i:Int)=Hw H8 L a0 a1 k i A9 Aq Az) hl hn (λn i h A9 Aq Az=>by simp only[Jm,R7,Hw,O5 h,aN,aB,aC]) (λn i x k h hx ih A9 Aq Az=>by simp only[Jm,R7,Hw,Np h,ltI h,hx,Cg h hl,ih,aN,aB,aC])
def F7(L:Nat)(a1:Yb)(a0:Ab):List Ag->Nat->Int->Option (Nat×Int×Int)
 | [],i,Aq=>(some (1,(Aq,(i:Int))))
 |x::k,i,Aq=>(bif (x.aD.toList == a1.toList) then(some (0,((i:Int),(i:Int))))
 else(F7 L a1 a0 k (i+1) Aq))
theorem Aiu(L:Nat)(a1:Yb)(a0:Ab)(n:Nat)(hl:a0.aX.length<=maxLen)(hn:a0.aX.length<n):∀(Aq:Int),F5 L a1 a0 n Aq 0=F7 L a1 a0 a0.aX 0 Aq:=lQ (λk i n=>∀(Aq:Int),F5 L a1 a0 n Aq (i:Int)=F7 L a1 a0 k i Aq) hl hn (λn i h Aq=>by simp only[F5,Mi,F7,O5 h,aN,aB,aC]) (λn i x k h hx ih Aq=>by simp only[F5,Mi,F7,Np h,ltI h,hx,Cg h hl,ih,aN,aB,aC])
def Kv(L:Nat)(a1:Yb)(r1:List (List Yb))(a0:Ab):List ((List Yb))->Nat->Int->Option (Nat×Int×Int)
 | [],i,Aq=>(some (1,(Aq,(i:Int))))
 |x::k,i,Aq=>(Option.bind (Ib L x a1) λr2=>
 (bif (decide (r2>=0)) then(some (0,(r2,(i:Int))))
 else(Kv L a1 r1 a0 k (i+1) Aq)))
theorem Apc(L:Nat)(a1:Yb)(r1:List (List Yb))(a0:Ab)(n:Nat)(hl:r1.length<=maxLen)(hn:r1.length<n):∀(Aq:Int),Jf L a1 r1 a0 n Aq 0=Kv L a1 r1 a0 r1 0 Aq:=lQ (λk i n=>∀(Aq:Int),Jf L a1 r1 a0 n Aq (i:Int)=Kv L a1 r1 a0 k i Aq) hl hn (λn i h Aq=>by simp only[Jf,R1,Kv,O5 h,aN,aB,aC]) (λn i x k h hx ih Aq=>by simp only[Jf,R1,Kv,Np h,ltI h,hx,Cg h hl,ih,aN,aB,aC])
def Ct(Dj:Ao->Aa->Option (Aa×Int))(L:Nat)(a0:Ao)(a1:Aa):List Aa->Nat->Int->Int->Yb->Int->List Aa->Option (Nat×Int×Int×Int×Yb×Int×List Aa)
 | [],i,A9,Dt,Df,B6,Mp=>(some (1,(A9,(i:Int),Dt,Df,B6,Mp)))
 |x::k,i,A9,Dt,Df,B6,Mp=>(Option.bind (Dj a0 x) λr3=>
 (bif (r3.2 != 0) then(some (0,(r3.2,(i:Int),0,(⟨#[]⟩:Yb),0,Mp)))
 else(if((Mp.length+ [r3.1].length)*56<=140737488355328) then(if(Mp.length+ [r3.1].length<=maxLen) then(Ct Dj L a0 a1 k (i+1) A9 Dt Df B6 (Mp++ [r3.1]))else none)else none)))
theorem Ait(Dj:Ao->Aa->Option (Aa×Int))(L:Nat)(a0:Ao)(a1:Aa)(n:Nat)(hl:a1.aQ.length<=maxLen)(hn:a1.aQ.length<n):∀(A9:Int) (Dt:Int) (Df:Yb) (B6:Int) (Mp:List Aa),Dk Dj L a0 a1 n A9 0 Dt Df B6 Mp=Ct Dj L a0 a1 a1.aQ 0 A9 Dt Df B6 Mp:=lQ (λk i n=>∀(A9:Int) (Dt:Int) (Df:Yb) (B6:Int) (Mp:List Aa),Dk Dj L a0 a1 n A9 (i:Int) Dt Df B6 Mp=Ct Dj L a0 a1 k i A9 Dt Df B6 Mp) hl hn (λn i h A9 Dt Df B6 Mp=>by simp only[Dk,Mh,Ct,O5 h,aN,aB,aC]) (λn i x k h hx ih A9 Dt Df B6 Mp=>by simp only[Dk,Mh,Ct,Np h,ltI h,hx,Cg h hl,ih,aN,aB,aC])
def Gw(Dw:Aa->Aa->Option Bool)(D1:(List Aa)->(List Aa)->Option Bool)(L:Nat)(a0:List Aa)(a1:List Aa):List Aa->Nat->Bool->Option (Nat×Bool×Int)
 | [],i,Az=>(some (1,(Az,(i:Int))))
 |x::k,i,Az=>(if((i:Int)<(a1.length:Int)) then(Option.bind (Dw x (a1.getD (Int.toNat (i:Int)) default)) λr1=>
 (bif (!r1) then(some (0,(false,(i:Int))))
 else(Gw Dw D1 L a0 a1 k (i+1) Az)))else none)
theorem Akf(Dw:Aa->Aa->Option Bool)(D1:(List Aa)->(List Aa)->Option Bool)(L:Nat)(a0:List Aa)(a1:List Aa)(n:Nat)(hl:a0.length<=maxLen)(hn:a0.length<n):∀(Az:Bool),Gm Dw D1 L a0 a1 n Az 0=Gw Dw D1 L a0 a1 a0 0 Az:=lQ (λk i n=>∀(Az:Bool),Gm Dw D1 L a0 a1 n Az (i:Int)=Gw Dw D1 L a0 a1 k i Az) hl hn (λn i h Az=>by simp only[Gm,Nv,Gw,O5 h,aN,aB,aC]) (λn i x k h hx ih Az=>by simp only[Gm,Nv,Gw,Np h,ltI h,hx,Cg h hl,ih,aN,aB,aC])
end Go.Proofs.YtgacplpjamkieaaGreat.Ev
