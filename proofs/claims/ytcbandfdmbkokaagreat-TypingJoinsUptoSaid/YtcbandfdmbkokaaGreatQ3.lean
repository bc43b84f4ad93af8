import Derived.Test.YtcbandfdmbkokaaGreatG3
import Derived.Test.YtcbandfdmbkokaaGreatPa
namespace Go.Proofs.YtcbandfdmbkokaaGreat.Ev
open Go
set_option maxRecDepth 100000
set_option linter.unusedVariables false
set_option linter.unusedSimpArgs false
set_option linter.unnecessarySimpa false
def D4(L:Nat)(r1:(Int×Int))(a2:(List Int))(a1:Aa):List Int→Nat→Int→Option (Nat×(Int×Int))
 | [],i,A9=>(some (1,(A9,(i:Int))))
 |x::k,i,A9=>(bif (r1.1 == x) then (some (0,(0,(i:Int))))
 else (D4 L r1 a2 a1 k (i+1) A9))
theorem Ys(L:Nat)(r1:(Int×Int))(a2:(List Int))(a1:Aa)(hl:a2.length≤maxLen):∀(k:List Int) (i n:Nat) (A9:Int),a2.drop i=k→k.length < n→Dj L r1 a2 a1 n A9 (i:Int)=D4 L r1 a2 a1 k i A9:=by
 intro k
 induction k with
 |nil=>
  intro i n A9 hk hn
  obtain ⟨n,rfl⟩:∃m,n=m+1:=⟨n - 1,by simp at hn;omega⟩
  simp only [Dj,D2,D4,L2 (Ci hk),Ao,Au,Al,Am,Ar,Ap,Ak,Av,Aw,Aq,Ax,cond_false]
 |cons x k ih=>
  intro i n A9 hk hn
  obtain ⟨n,rfl⟩:∃m,n=m+1:=⟨n - 1,by simp at hn;omega⟩
  obtain ⟨hlt,hx,hk'⟩:=Cb hk
  have hih:=fun A9=>ih (i+1) n A9 hk' (by simpa using hn)
  simp only [Dj,D2,D4,Kq hlt,nn,Ub hlt,Sr,hx,Ch hlt hl,hih,Ao,Au,Al,Am,Ar,Ap,Ak,Av,Aw,Aq,Ax,cond_true,if_true,decide_true,Aa.eta,Aa.cp_eq,Ab.eta,Ab.cp_eq]
theorem Yq(L:Nat)(r1:(Int×Int))(a2:(List Int))(a1:Aa)(n:Nat)(hl:a2.length≤maxLen)(hn:a2.length < n)(A9:Int):Dj L r1 a2 a1 n A9 0=D4 L r1 a2 a1 a2 0 A9:=Ys L r1 a2 a1 hl _ 0 n A9 rfl hn
def Eo(L:Nat)(a0:Ag)(r1:(Int×Bool))(a1:Ab):List Bp→Nat→Int→Option (Nat×(Int×Int))
 | [],i,B5=>(some (1,(B5,(i:Int))))
 |x::k,i,B5=>(bif ((x.Name).toList == a1.Name.toList) then (Option.bind (Br L a0 a1.E [x.Type_]) fun r2=>
 (some (0,(r2,(i:Int)))))
 else (Eo L a0 r1 a1 k (i+1) B5))
theorem Z5(L:Nat)(a0:Ag)(r1:(Int×Bool))(a1:Ab)(hl:a0.u_env.Site.Vars.length≤maxLen):∀(k:List Bp) (i n:Nat) (B5:Int),a0.u_env.Site.Vars.drop i=k→k.length < n→Dw L a0 r1 a1 n B5 (i:Int)=Eo L a0 r1 a1 k i B5:=by
 intro k
 induction k with
 |nil=>
  intro i n B5 hk hn
  obtain ⟨n,rfl⟩:∃m,n=m+1:=⟨n - 1,by simp at hn;omega⟩
  simp only [Dw,En,Eo,L2 (Ci hk),Ao,Au,Al,Am,Ar,Ap,Ak,Av,Aw,Aq,Ax,cond_false]
 |cons x k ih=>
  intro i n B5 hk hn
  obtain ⟨n,rfl⟩:∃m,n=m+1:=⟨n - 1,by simp at hn;omega⟩
  obtain ⟨hlt,hx,hk'⟩:=Cb hk
  have hih:=fun B5=>ih (i+1) n B5 hk' (by simpa using hn)
  simp only [Dw,En,Eo,Kq hlt,nn,Ub hlt,Sr,hx,Ch hlt hl,hih,Ao,Au,Al,Am,Ar,Ap,Ak,Av,Aw,Aq,Ax,cond_true,if_true,decide_true,Aa.eta,Aa.cp_eq,Ab.eta,Ab.cp_eq]
theorem Z4(L:Nat)(a0:Ag)(r1:(Int×Bool))(a1:Ab)(n:Nat)(hl:a0.u_env.Site.Vars.length≤maxLen)(hn:a0.u_env.Site.Vars.length < n)(B5:Int):Dw L a0 r1 a1 n B5 0=Eo L a0 r1 a1 a0.u_env.Site.Vars 0 B5:=Z5 L a0 r1 a1 hl _ 0 n B5 rfl hn
def Du(L:Nat)(r1:(Int×Bool))(a2:(List Int)):List Int→Nat→Int→Option (Nat×(Int×Int))
 | [],i,A9=>(some (1,(A9,(i:Int))))
 |x::k,i,A9=>(bif (r1.1 == x) then (some (0,(0,(i:Int))))
 else (Du L r1 a2 k (i+1) A9))
theorem Xw(L:Nat)(r1:(Int×Bool))(a2:(List Int))(hl:a2.length≤maxLen):∀(k:List Int) (i n:Nat) (A9:Int),a2.drop i=k→k.length < n→Dd L r1 a2 n A9 (i:Int)=Du L r1 a2 k i A9:=by
 intro k
 induction k with
 |nil=>
  intro i n A9 hk hn
  obtain ⟨n,rfl⟩:∃m,n=m+1:=⟨n - 1,by simp at hn;omega⟩
  simp only [Dd,Dt,Du,L2 (Ci hk),Ao,Au,Al,Am,Ar,Ap,Ak,Av,Aw,Aq,Ax,cond_false]
 |cons x k ih=>
  intro i n A9 hk hn
  obtain ⟨n,rfl⟩:∃m,n=m+1:=⟨n - 1,by simp at hn;omega⟩
  obtain ⟨hlt,hx,hk'⟩:=Cb hk
  have hih:=fun A9=>ih (i+1) n A9 hk' (by simpa using hn)
  simp only [Dd,Dt,Du,Kq hlt,nn,Ub hlt,Sr,hx,Ch hlt hl,hih,Ao,Au,Al,Am,Ar,Ap,Ak,Av,Aw,Aq,Ax,cond_true,if_true,decide_true,Aa.eta,Aa.cp_eq,Ab.eta,Ab.cp_eq]
theorem Xv(L:Nat)(r1:(Int×Bool))(a2:(List Int))(n:Nat)(hl:a2.length≤maxLen)(hn:a2.length < n)(A9:Int):Dd L r1 a2 n A9 0=Du L r1 a2 a2 0 A9:=Xw L r1 a2 hl _ 0 n A9 rfl hn
def D3(L:Nat)(a0:Ag)(a3:(List Aa))(a1:Ab):List Aa→Nat→Int→Option (Nat×(Int×Int))
 | [],i,B5=>(some (1,(B5,(i:Int))))
 |x::k,i,B5=>(Option.bind (Br L a0 x [1]) fun r2=>
 (bif (r2 != 0) then (some (0,(r2,(i:Int))))
 else (D3 L a0 a3 a1 k (i+1) B5)))
theorem Yr(L:Nat)(a0:Ag)(a3:(List Aa))(a1:Ab)(hl:a3.length≤maxLen):∀(k:List Aa) (i n:Nat) (B5:Int),a3.drop i=k→k.length < n→Di L a0 a3 a1 n B5 (i:Int)=D3 L a0 a3 a1 k i B5:=by
 intro k
 induction k with
 |nil=>
  intro i n B5 hk hn
  obtain ⟨n,rfl⟩:∃m,n=m+1:=⟨n - 1,by simp at hn;omega⟩
  simp only [Di,D1,D3,L2 (Ci hk),Ao,Au,Al,Am,Ar,Ap,Ak,Av,Aw,Aq,Ax,cond_false]
 |cons x k ih=>
  intro i n B5 hk hn
  obtain ⟨n,rfl⟩:∃m,n=m+1:=⟨n - 1,by simp at hn;omega⟩
  obtain ⟨hlt,hx,hk'⟩:=Cb hk
  have hih:=fun B5=>ih (i+1) n B5 hk' (by simpa using hn)
  simp only [Di,D1,D3,Kq hlt,nn,Ub hlt,Sr,hx,Ch hlt hl,hih,Ao,Au,Al,Am,Ar,Ap,Ak,Av,Aw,Aq,Ax,cond_true,if_true,decide_true,Aa.eta,Aa.cp_eq,Ab.eta,Ab.cp_eq]
theorem Yp(L:Nat)(a0:Ag)(a3:(List Aa))(a1:Ab)(n:Nat)(hl:a3.length≤maxLen)(hn:a3.length < n)(B5:Int):Di L a0 a3 a1 n B5 0=D3 L a0 a3 a1 a3 0 B5:=Yr L a0 a3 a1 hl _ 0 n B5 rfl hn
def Mm(L:Nat)(p1_0:List Ac)(p1_1:Af)(p1_2:ByteArray):List Ac→Nat→Int→Option (Nat×(Int×Int))
 | [],i,Ae=>(some (1,(Ae,(i:Int))))
 |x::k,i,Ae=>(bif ((x.Name).toList == p1_2.toList) then (some (0,((i:Int),(i:Int))))
 else (Mm L p1_0 p1_1 p1_2 k (i+1) Ae))
theorem Ag3(L:Nat)(p1_0:List Ac)(p1_1:Af)(p1_2:ByteArray)(hl:p1_0.length≤maxLen):∀(k:List Ac) (i n:Nat) (Ae:Int),p1_0.drop i=k→k.length < n→Jb L p1_0 p1_1 p1_2 n Ae (i:Int)=Mm L p1_0 p1_1 p1_2 k i Ae:=by
 intro k
 induction k with
 |nil=>
  intro i n Ae hk hn
  obtain ⟨n,rfl⟩:∃m,n=m+1:=⟨n - 1,by simp at hn;omega⟩
  simp only [Jb,Md,Mm,L2 (Ci hk),Ao,Au,Al,Am,Ar,Ap,Ak,Av,Aw,Aq,Ax,cond_false]
 |cons x k ih=>
  intro i n Ae hk hn
  obtain ⟨n,rfl⟩:∃m,n=m+1:=⟨n - 1,by simp at hn;omega⟩
  obtain ⟨hlt,hx,hk'⟩:=Cb hk
  have hih:=fun Ae=>ih (i+1) n Ae hk' (by simpa using hn)
  simp only [Jb,Md,Mm,Kq hlt,nn,Ub hlt,Sr,hx,Ch hlt hl,hih,Ao,Au,Al,Am,Ar,Ap,Ak,Av,Aw,Aq,Ax,cond_true,if_true,decide_true,Aa.eta,Aa.cp_eq,Ab.eta,Ab.cp_eq]
theorem Agu(L:Nat)(p1_0:List Ac)(p1_1:Af)(p1_2:ByteArray)(n:Nat)(hl:p1_0.length≤maxLen)(hn:p1_0.length < n)(Ae:Int):Jb L p1_0 p1_1 p1_2 n Ae 0=Mm L p1_0 p1_1 p1_2 p1_0 0 Ae:=Ag3 L p1_0 p1_1 p1_2 hl _ 0 n Ae rfl hn
def Ml(L:Nat)(p1_0:List Cq)(p1_1:Af)(p1_2:ByteArray)(p1_3:ByteArray):List Cq→Nat→Int→Option (Nat×(Int×Int))
 | [],i,Ae=>(some (1,(Ae,(i:Int))))
 |x::k,i,Ae=>((fun b1=>
 (bif b1 then (some (0,((i:Int),(i:Int))))
 else (Ml L p1_0 p1_1 p1_2 p1_3 k (i+1) Ae))) (bif ((x.From).toList == p1_2.toList) then ((x.To).toList == p1_3.toList) else false))
theorem Ag2(L:Nat)(p1_0:List Cq)(p1_1:Af)(p1_2:ByteArray)(p1_3:ByteArray)(hl:p1_0.length≤maxLen):∀(k:List Cq) (i n:Nat) (Ae:Int),p1_0.drop i=k→k.length < n→Ja L p1_0 p1_1 p1_2 p1_3 n Ae (i:Int)=Ml L p1_0 p1_1 p1_2 p1_3 k i Ae:=by
 intro k
 induction k with
 |nil=>
  intro i n Ae hk hn
  obtain ⟨n,rfl⟩:∃m,n=m+1:=⟨n - 1,by simp at hn;omega⟩
  simp only [Ja,Mc,Ml,L2 (Ci hk),Ao,Au,Al,Am,Ar,Ap,Ak,Av,Aw,Aq,Ax,cond_false]
 |cons x k ih=>
  intro i n Ae hk hn
  obtain ⟨n,rfl⟩:∃m,n=m+1:=⟨n - 1,by simp at hn;omega⟩
  obtain ⟨hlt,hx,hk'⟩:=Cb hk
  have hih:=fun Ae=>ih (i+1) n Ae hk' (by simpa using hn)
  simp only [Ja,Mc,Ml,Kq hlt,nn,Ub hlt,Sr,hx,Ch hlt hl,hih,Ao,Au,Al,Am,Ar,Ap,Ak,Av,Aw,Aq,Ax,cond_true,if_true,decide_true,Aa.eta,Aa.cp_eq,Ab.eta,Ab.cp_eq]
theorem Agt(L:Nat)(p1_0:List Cq)(p1_1:Af)(p1_2:ByteArray)(p1_3:ByteArray)(n:Nat)(hl:p1_0.length≤maxLen)(hn:p1_0.length < n)(Ae:Int):Ja L p1_0 p1_1 p1_2 p1_3 n Ae 0=Ml L p1_0 p1_1 p1_2 p1_3 p1_0 0 Ae:=Ag2 L p1_0 p1_1 p1_2 p1_3 hl _ 0 n Ae rfl hn
def Ee(L:Nat)(a0:Ag)(a2:Ab)(a1:Bg):List Aa→Nat→Int→Option (Nat×(Int×Int))
 | [],i,B5=>(some (1,(B5,(i:Int))))
 |x::k,i,B5=>(if ((i:Int) < ((a1.Params.length:Nat):Int)) then (Option.bind (Br L a0 x [(a1.Params.getD (Int.toNat (i:Int)) default).Type_]) fun r1=>
 (bif (r1 != 0) then (some (0,(r1,(i:Int))))
 else (Ee L a0 a2 a1 k (i+1) B5))) else none)
theorem Y6(L:Nat)(a0:Ag)(a2:Ab)(a1:Bg)(hl:a2.Args.length≤maxLen):∀(k:List Aa) (i n:Nat) (B5:Int),a2.Args.drop i=k→k.length < n→Dn L a0 a2 a1 n B5 (i:Int)=Ee L a0 a2 a1 k i B5:=by
 intro k
 induction k with
 |nil=>
  intro i n B5 hk hn
  obtain ⟨n,rfl⟩:∃m,n=m+1:=⟨n - 1,by simp at hn;omega⟩
  simp only [Dn,Eb,Ee,L2 (Ci hk),Ao,Au,Al,Am,Ar,Ap,Ak,Av,Aw,Aq,Ax,cond_false]
 |cons x k ih=>
  intro i n B5 hk hn
  obtain ⟨n,rfl⟩:∃m,n=m+1:=⟨n - 1,by simp at hn;omega⟩
  obtain ⟨hlt,hx,hk'⟩:=Cb hk
  have hih:=fun B5=>ih (i+1) n B5 hk' (by simpa using hn)
  simp only [Dn,Eb,Ee,Kq hlt,nn,Ub hlt,Sr,hx,Ch hlt hl,hih,Ao,Au,Al,Am,Ar,Ap,Ak,Av,Aw,Aq,Ax,cond_true,if_true,decide_true,Aa.eta,Aa.cp_eq,Ab.eta,Ab.cp_eq]
theorem Y3(L:Nat)(a0:Ag)(a2:Ab)(a1:Bg)(n:Nat)(hl:a2.Args.length≤maxLen)(hn:a2.Args.length < n)(B5:Int):Dn L a0 a2 a1 n B5 0=Ee L a0 a2 a1 a2.Args 0 B5:=Y6 L a0 a2 a1 hl _ 0 n B5 rfl hn
def Ef(F0:Ag→(List Ab)→Option Int)(L:Nat)(a0:Ag)(a1:(List Ab)):List Ab→Nat→Int→Option (Nat×(Int×Int))
 | [],i,B5=>(some (1,(B5,(i:Int))))
 |x::k,i,B5=>(Option.bind (D6 L a0 x) fun r1=>
 (bif (r1 != 0) then (some (0,(r1,(i:Int))))
 else (Option.bind (F0 a0 (x.Body)) fun r2=>
 (bif (r2 != 0) then (some (0,(r2,(i:Int))))
 else (Option.bind (F0 a0 (x.Else)) fun r3=>
 (bif (r3 != 0) then (some (0,(r3,(i:Int))))
 else (Ef F0 L a0 a1 k (i+1) B5)))))))
theorem Y7(F0:Ag→(List Ab)→Option Int)(L:Nat)(a0:Ag)(a1:(List Ab))(hl:a1.length≤maxLen):∀(k:List Ab) (i n:Nat) (B5:Int),a1.drop i=k→k.length < n→Dp F0 L a0 a1 n B5 (i:Int)=Ef F0 L a0 a1 k i B5:=by
 intro k
 induction k with
 |nil=>
  intro i n B5 hk hn
  obtain ⟨n,rfl⟩:∃m,n=m+1:=⟨n - 1,by simp at hn;omega⟩
  simp only [Dp,Ec,Ef,L2 (Ci hk),Ao,Au,Al,Am,Ar,Ap,Ak,Av,Aw,Aq,Ax,cond_false]
 |cons x k ih=>
  intro i n B5 hk hn
  obtain ⟨n,rfl⟩:∃m,n=m+1:=⟨n - 1,by simp at hn;omega⟩
  obtain ⟨hlt,hx,hk'⟩:=Cb hk
  have hih:=fun B5=>ih (i+1) n B5 hk' (by simpa using hn)
  simp only [Dp,Ec,Ef,Kq hlt,nn,Ub hlt,Sr,hx,Ch hlt hl,hih,Ao,Au,Al,Am,Ar,Ap,Ak,Av,Aw,Aq,Ax,cond_true,if_true,decide_true,Aa.eta,Aa.cp_eq,Ab.eta,Ab.cp_eq]
theorem Y4(F0:Ag→(List Ab)→Option Int)(L:Nat)(a0:Ag)(a1:(List Ab))(n:Nat)(hl:a1.length≤maxLen)(hn:a1.length < n)(B5:Int):Dp F0 L a0 a1 n B5 0=Ef F0 L a0 a1 a1 0 B5:=Y7 F0 L a0 a1 hl _ 0 n B5 rfl hn
def Lp(F4:(List Ab)→Option Int)(L:Nat)(a0:(List Ab)):List Ab→Nat→Int→Option (Nat×(Int×Int))
 | [],i,Ah=>(some (0,(Ah,(i:Int))))
 |x::k,i,Ah=>(Option.bind (F4 (x.Body)) fun r1=>
 (Option.bind (F4 (x.Else)) fun r2=>
 (Lp F4 L a0 k (i+1) (if (F9 (1+r2)) > (if (F9 (1+r1)) > Ah then (F9 (1+r1)) else Ah) then (F9 (1+r2)) else (if (F9 (1+r1)) > Ah then (F9 (1+r1)) else Ah)))))
theorem Ajd(F4:(List Ab)→Option Int)(L:Nat)(a0:(List Ab))(hl:a0.length≤maxLen):∀(k:List Ab) (i n:Nat) (Ah:Int),a0.drop i=k→k.length < n→Ld F4 L a0 n Ah (i:Int)=Lp F4 L a0 k i Ah:=by
 intro k
 induction k with
 |nil=>
  intro i n Ah hk hn
  obtain ⟨n,rfl⟩:∃m,n=m+1:=⟨n - 1,by simp at hn;omega⟩
  simp only [Ld,Nz,Lp,L2 (Ci hk),Ao,Au,Al,Am,Ar,Ap,Ak,Av,Aw,Aq,Ax,cond_false]
 |cons x k ih=>
  intro i n Ah hk hn
  obtain ⟨n,rfl⟩:∃m,n=m+1:=⟨n - 1,by simp at hn;omega⟩
  obtain ⟨hlt,hx,hk'⟩:=Cb hk
  have hih:=fun Ah=>ih (i+1) n Ah hk' (by simpa using hn)
  simp only [Ld,Nz,Lp,Kq hlt,nn,Ub hlt,Sr,hx,Ch hlt hl,hih,Ao,Au,Al,Am,Ar,Ap,Ak,Av,Aw,Aq,Ax,cond_true,if_true,decide_true,Aa.eta,Aa.cp_eq,Ab.eta,Ab.cp_eq]
theorem Ai0(F4:(List Ab)→Option Int)(L:Nat)(a0:(List Ab))(n:Nat)(hl:a0.length≤maxLen)(hn:a0.length < n)(Ah:Int):Ld F4 L a0 n Ah 0=Lp F4 L a0 a0 0 Ah:=Ajd F4 L a0 hl _ 0 n Ah rfl hn
def I0(L:Nat)(a0:(List Int))(a1:(List Int)):List Int→Nat→Bool→Option (Nat×(Bool×Int))
 | [],i,Ah=>(some (1,(Ah,(i:Int))))
 |x::k,i,Ah=>(if ((i:Int) < ((a1.length:Nat):Int)) then (bif (x != (a1.getD (Int.toNat (i:Int)) default)) then (some (0,(false,(i:Int))))
 else (I0 L a0 a1 k (i+1) Ah)) else none)
theorem Adt(L:Nat)(a0:(List Int))(a1:(List Int))(hl:a0.length≤maxLen):∀(k:List Int) (i n:Nat) (Ah:Bool),a0.drop i=k→k.length < n→He L a0 a1 n Ah (i:Int)=I0 L a0 a1 k i Ah:=by
 intro k
 induction k with
 |nil=>
  intro i n Ah hk hn
  obtain ⟨n,rfl⟩:∃m,n=m+1:=⟨n - 1,by simp at hn;omega⟩
  simp only [He,Iz,I0,L2 (Ci hk),Ao,Au,Al,Am,Ar,Ap,Ak,Av,Aw,Aq,Ax,cond_false]
 |cons x k ih=>
  intro i n Ah hk hn
  obtain ⟨n,rfl⟩:∃m,n=m+1:=⟨n - 1,by simp at hn;omega⟩
  obtain ⟨hlt,hx,hk'⟩:=Cb hk
  have hih:=fun Ah=>ih (i+1) n Ah hk' (by simpa using hn)
  simp only [He,Iz,I0,Kq hlt,nn,Ub hlt,Sr,hx,Ch hlt hl,hih,Ao,Au,Al,Am,Ar,Ap,Ak,Av,Aw,Aq,Ax,cond_true,if_true,decide_true,Aa.eta,Aa.cp_eq,Ab.eta,Ab.cp_eq]
theorem Ads(L:Nat)(a0:(List Int))(a1:(List Int))(n:Nat)(hl:a0.length≤maxLen)(hn:a0.length < n)(Ah:Bool):He L a0 a1 n Ah 0=I0 L a0 a1 a0 0 Ah:=Adt L a0 a1 hl _ 0 n Ah rfl hn
def P1(L:Nat)(a0:(List ByteArray))(a1:ByteArray):List ByteArray→Nat→Int→Option (Nat×(Int×Int))
 | [],i,Ah=>(some (1,(Ah,(i:Int))))
 |x::k,i,Ah=>(bif (x.toList == a1.toList) then (some (0,((i:Int),(i:Int))))
 else (P1 L a0 a1 k (i+1) Ah))
theorem Aly(L:Nat)(a0:(List ByteArray))(a1:ByteArray)(hl:a0.length≤maxLen):∀(k:List ByteArray) (i n:Nat) (Ah:Int),a0.drop i=k→k.length < n→M7 L a0 a1 n Ah (i:Int)=P1 L a0 a1 k i Ah:=by
 intro k
 induction k with
 |nil=>
  intro i n Ah hk hn
  obtain ⟨n,rfl⟩:∃m,n=m+1:=⟨n - 1,by simp at hn;omega⟩
  simp only [M7,Pu,P1,L2 (Ci hk),Ao,Au,Al,Am,Ar,Ap,Ak,Av,Aw,Aq,Ax,cond_false]
 |cons x k ih=>
  intro i n Ah hk hn
  obtain ⟨n,rfl⟩:∃m,n=m+1:=⟨n - 1,by simp at hn;omega⟩
  obtain ⟨hlt,hx,hk'⟩:=Cb hk
  have hih:=fun Ah=>ih (i+1) n Ah hk' (by simpa using hn)
  simp only [M7,Pu,P1,Kq hlt,nn,Ub hlt,Sr,hx,Ch hlt hl,hih,Ao,Au,Al,Am,Ar,Ap,Ak,Av,Aw,Aq,Ax,cond_true,if_true,decide_true,Aa.eta,Aa.cp_eq,Ab.eta,Ab.cp_eq]
theorem Alr(L:Nat)(a0:(List ByteArray))(a1:ByteArray)(n:Nat)(hl:a0.length≤maxLen)(hn:a0.length < n)(Ah:Int):M7 L a0 a1 n Ah 0=P1 L a0 a1 a0 0 Ah:=Aly L a0 a1 hl _ 0 n Ah rfl hn
def Oa(Gg:Aa→Option Int)(L:Nat)(a0:Aa):List Aa→Nat→Int→Option (Nat×(Int×Int))
 | [],i,Ae=>(some (0,(Ae,(i:Int))))
 |x::k,i,Ae=>(Option.bind (Gg x) fun r1=>
 (Oa Gg L a0 k (i+1) (F9 (Ae+r1))))
theorem Ajb(Gg:Aa→Option Int)(L:Nat)(a0:Aa)(hl:a0.Kids.length≤maxLen):∀(k:List Aa) (i n:Nat) (Ae:Int),a0.Kids.drop i=k→k.length < n→Lb Gg L a0 n Ae (i:Int)=Oa Gg L a0 k i Ae:=by
 intro k
 induction k with
 |nil=>
  intro i n Ae hk hn
  obtain ⟨n,rfl⟩:∃m,n=m+1:=⟨n - 1,by simp at hn;omega⟩
  simp only [Lb,Nx,Oa,L2 (Ci hk),Ao,Au,Al,Am,Ar,Ap,Ak,Av,Aw,Aq,Ax,cond_false]
 |cons x k ih=>
  intro i n Ae hk hn
  obtain ⟨n,rfl⟩:∃m,n=m+1:=⟨n - 1,by simp at hn;omega⟩
  obtain ⟨hlt,hx,hk'⟩:=Cb hk
  have hih:=fun Ae=>ih (i+1) n Ae hk' (by simpa using hn)
  simp only [Lb,Nx,Oa,Kq hlt,nn,Ub hlt,Sr,hx,Ch hlt hl,hih,Ao,Au,Al,Am,Ar,Ap,Ak,Av,Aw,Aq,Ax,cond_true,if_true,decide_true,Aa.eta,Aa.cp_eq,Ab.eta,Ab.cp_eq]
theorem Aiy(Gg:Aa→Option Int)(L:Nat)(a0:Aa)(n:Nat)(hl:a0.Kids.length≤maxLen)(hn:a0.Kids.length < n)(Ae:Int):Lb Gg L a0 n Ae 0=Oa Gg L a0 a0.Kids 0 Ae:=Ajb Gg L a0 hl _ 0 n Ae rfl hn
end Go.Proofs.YtcbandfdmbkokaaGreat.Ev
