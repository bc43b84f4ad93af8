import Derived.Test.YtcbandfdmbkokaaGreatG2
import Derived.Test.YtcbandfdmbkokaaGreatPa
namespace Go.Proofs.YtcbandfdmbkokaaGreat.Ev
open Go
set_option maxRecDepth 100000
set_option linter.unusedVariables false
set_option linter.unusedSimpArgs false
set_option linter.unnecessarySimpa false
def J9(L:Nat)(p1_0:List Int)(p1_1:Int)(p1_2:Int):List Int→Nat→Int→Option (Nat×(Int×Int))
 | [],i,Ae=>(some (1,(Ae,(i:Int))))
 |x::k,i,Ae=>((fun b1=>
 (bif b1 then (some (0,((i:Int),(i:Int))))
 else (J9 L p1_0 p1_1 p1_2 k (i+1) Ae))) (bif (decide (x < p1_1)) then true else (decide (x > p1_2))))
theorem Ae3(L:Nat)(p1_0:List Int)(p1_1:Int)(p1_2:Int)(hl:p1_0.length≤maxLen):∀(k:List Int) (i n:Nat) (Ae:Int),p1_0.drop i=k→k.length < n→Hz L p1_0 p1_1 p1_2 n Ae (i:Int)=J9 L p1_0 p1_1 p1_2 k i Ae:=by
 intro k
 induction k with
 |nil=>
  intro i n Ae hk hn
  obtain ⟨n,rfl⟩:∃m,n=m+1:=⟨n - 1,by simp at hn;omega⟩
  simp only [Hz,J1,J9,L2 (Ci hk),Ao,Au,Al,Am,Ar,Ap,Ak,Av,Aw,Aq,Ax,cond_false]
 |cons x k ih=>
  intro i n Ae hk hn
  obtain ⟨n,rfl⟩:∃m,n=m+1:=⟨n - 1,by simp at hn;omega⟩
  obtain ⟨hlt,hx,hk'⟩:=Cb hk
  have hih:=fun Ae=>ih (i+1) n Ae hk' (by simpa using hn)
  simp only [Hz,J1,J9,Kq hlt,nn,Ub hlt,Sr,hx,Ch hlt hl,hih,Ao,Au,Al,Am,Ar,Ap,Ak,Av,Aw,Aq,Ax,cond_true,if_true,decide_true,Aa.eta,Aa.cp_eq,Ab.eta,Ab.cp_eq]
theorem Aev(L:Nat)(p1_0:List Int)(p1_1:Int)(p1_2:Int)(n:Nat)(hl:p1_0.length≤maxLen)(hn:p1_0.length < n)(Ae:Int):Hz L p1_0 p1_1 p1_2 n Ae 0=J9 L p1_0 p1_1 p1_2 p1_0 0 Ae:=Ae3 L p1_0 p1_1 p1_2 hl _ 0 n Ae rfl hn
def Jk(L:Nat)(a0:Ab)(a1:Bn):List Aa→Nat→Int→Option (Nat×(Int×Int))
 | [],i,Tg=>(some (1,(Tg,(i:Int))))
 |x::k,i,Tg=>(Option.bind (Gw L x) fun r3=>
 (bif (r3 != 0) then (some (0,(r3,(i:Int))))
 else (Jk L a0 a1 k (i+1) Tg)))
theorem Ag7(L:Nat)(a0:Ab)(a1:Bn)(hl:a0.Args.length≤maxLen):∀(k:List Aa) (i n:Nat) (Tg:Int),a0.Args.drop i=k→k.length < n→Jh L a0 a1 n Tg (i:Int)=Jk L a0 a1 k i Tg:=by
 intro k
 induction k with
 |nil=>
  intro i n Tg hk hn
  obtain ⟨n,rfl⟩:∃m,n=m+1:=⟨n - 1,by simp at hn;omega⟩
  simp only [Jh,Mh,Jk,L2 (Ci hk),Ao,Au,Al,Am,Ar,Ap,Ak,Av,Aw,Aq,Ax,cond_false]
 |cons x k ih=>
  intro i n Tg hk hn
  obtain ⟨n,rfl⟩:∃m,n=m+1:=⟨n - 1,by simp at hn;omega⟩
  obtain ⟨hlt,hx,hk'⟩:=Cb hk
  have hih:=fun Tg=>ih (i+1) n Tg hk' (by simpa using hn)
  simp only [Jh,Mh,Jk,Kq hlt,nn,Ub hlt,Sr,hx,Ch hlt hl,hih,Ao,Au,Al,Am,Ar,Ap,Ak,Av,Aw,Aq,Ax,cond_true,if_true,decide_true,Aa.eta,Aa.cp_eq,Ab.eta,Ab.cp_eq]
theorem Agy(L:Nat)(a0:Ab)(a1:Bn)(n:Nat)(hl:a0.Args.length≤maxLen)(hn:a0.Args.length < n)(Tg:Int):Jh L a0 a1 n Tg 0=Jk L a0 a1 a0.Args 0 Tg:=Ag7 L a0 a1 hl _ 0 n Tg rfl hn
def Mn(F3:(List Ab)→Option Int)(L:Nat)(a0:(List Ab)):List Ab→Nat→Int→Option (Nat×(Int×Int))
 | [],i,A9=>(some (1,(A9,(i:Int))))
 |x::k,i,A9=>(Option.bind (O3 L (x.Op)) fun r1=>
 (Option.bind (bif (!r1.2) then (some true) else (Option.bind (M6 L x r1.1) fun r3=>(some (!r3)))) fun b2=>
 (bif b2 then (some (0,(1,(i:Int))))
 else (Option.bind (Mw L x r1.1) fun r5=>
 (bif (r5 != 0) then (some (0,(r5,(i:Int))))
 else (Option.bind (F3 (x.Body)) fun r6=>
 (bif (r6 != 0) then (some (0,(r6,(i:Int))))
 else (Option.bind (F3 (x.Else)) fun r7=>
 (bif (r7 != 0) then (some (0,(r7,(i:Int))))
 else (Mn F3 L a0 k (i+1) A9))))))))))
theorem Ag6(F3:(List Ab)→Option Int)(L:Nat)(a0:(List Ab))(hl:a0.length≤maxLen):∀(k:List Ab) (i n:Nat) (A9:Int),a0.drop i=k→k.length < n→Je F3 L a0 n A9 (i:Int)=Mn F3 L a0 k i A9:=by
 intro k
 induction k with
 |nil=>
  intro i n A9 hk hn
  obtain ⟨n,rfl⟩:∃m,n=m+1:=⟨n - 1,by simp at hn;omega⟩
  simp only [Je,Mg,Mn,L2 (Ci hk),Ao,Au,Al,Am,Ar,Ap,Ak,Av,Aw,Aq,Ax,cond_false]
 |cons x k ih=>
  intro i n A9 hk hn
  obtain ⟨n,rfl⟩:∃m,n=m+1:=⟨n - 1,by simp at hn;omega⟩
  obtain ⟨hlt,hx,hk'⟩:=Cb hk
  have hih:=fun A9=>ih (i+1) n A9 hk' (by simpa using hn)
  simp only [Je,Mg,Mn,Kq hlt,nn,Ub hlt,Sr,hx,Ch hlt hl,hih,Ao,Au,Al,Am,Ar,Ap,Ak,Av,Aw,Aq,Ax,cond_true,if_true,decide_true,Aa.eta,Aa.cp_eq,Ab.eta,Ab.cp_eq]
theorem Agx(F3:(List Ab)→Option Int)(L:Nat)(a0:(List Ab))(n:Nat)(hl:a0.length≤maxLen)(hn:a0.length < n)(A9:Int):Je F3 L a0 n A9 0=Mn F3 L a0 a0 0 A9:=Ag6 F3 L a0 hl _ 0 n A9 rfl hn
def Ke(L:Nat)(a1:ByteArray)(a0:Ai):List Bp→Nat→Int→Bool→Option (Nat×(Int×Bool×Int))
 | [],i,Ae,Ah=>(some (1,(Ae,Ah,(i:Int))))
 |x::k,i,Ae,Ah=>(bif ((x.Name).toList == a1.toList) then (some (0,((x.Type_),true,(i:Int))))
 else (Ke L a1 a0 k (i+1) Ae Ah))
theorem Ae8(L:Nat)(a1:ByteArray)(a0:Ai)(hl:a0.Site.Vars.length≤maxLen):∀(k:List Bp) (i n:Nat) (Ae:Int) (Ah:Bool),a0.Site.Vars.drop i=k→k.length < n→H5 L a1 a0 n Ae Ah (i:Int)=Ke L a1 a0 k i Ae Ah:=by
 intro k
 induction k with
 |nil=>
  intro i n Ae Ah hk hn
  obtain ⟨n,rfl⟩:∃m,n=m+1:=⟨n - 1,by simp at hn;omega⟩
  simp only [H5,J6,Ke,L2 (Ci hk),Ao,Au,Al,Am,Ar,Ap,Ak,Av,Aw,Aq,Ax,cond_false]
 |cons x k ih=>
  intro i n Ae Ah hk hn
  obtain ⟨n,rfl⟩:∃m,n=m+1:=⟨n - 1,by simp at hn;omega⟩
  obtain ⟨hlt,hx,hk'⟩:=Cb hk
  have hih:=fun Ae Ah=>ih (i+1) n Ae Ah hk' (by simpa using hn)
  simp only [H5,J6,Ke,Kq hlt,nn,Ub hlt,Sr,hx,Ch hlt hl,hih,Ao,Au,Al,Am,Ar,Ap,Ak,Av,Aw,Aq,Ax,cond_true,if_true,decide_true,Aa.eta,Aa.cp_eq,Ab.eta,Ab.cp_eq]
theorem Ae0(L:Nat)(a1:ByteArray)(a0:Ai)(n:Nat)(hl:a0.Site.Vars.length≤maxLen)(hn:a0.Site.Vars.length < n)(Ae:Int)(Ah:Bool):H5 L a1 a0 n Ae Ah 0=Ke L a1 a0 a0.Site.Vars 0 Ae Ah:=Ae8 L a1 a0 hl _ 0 n Ae Ah rfl hn
def Kf(L:Nat)(a1:ByteArray)(a0:Ai):List Bp→Nat→Int→Bool→Option (Nat×(Int×Bool×Int))
 | [],i,C5,Tf=>(some (1,(C5,Tf,(i:Int))))
 |x::k,i,C5,Tf=>(bif ((x.Name).toList == a1.toList) then (some (0,((x.Type_),true,(i:Int))))
 else (Kf L a1 a0 k (i+1) C5 Tf))
theorem Ae9(L:Nat)(a1:ByteArray)(a0:Ai)(hl:a0.Params.length≤maxLen):∀(k:List Bp) (i n:Nat) (C5:Int) (Tf:Bool),a0.Params.drop i=k→k.length < n→H6 L a1 a0 n C5 Tf (i:Int)=Kf L a1 a0 k i C5 Tf:=by
 intro k
 induction k with
 |nil=>
  intro i n C5 Tf hk hn
  obtain ⟨n,rfl⟩:∃m,n=m+1:=⟨n - 1,by simp at hn;omega⟩
  simp only [H6,J7,Kf,L2 (Ci hk),Ao,Au,Al,Am,Ar,Ap,Ak,Av,Aw,Aq,Ax,cond_false]
 |cons x k ih=>
  intro i n C5 Tf hk hn
  obtain ⟨n,rfl⟩:∃m,n=m+1:=⟨n - 1,by simp at hn;omega⟩
  obtain ⟨hlt,hx,hk'⟩:=Cb hk
  have hih:=fun C5 Tf=>ih (i+1) n C5 Tf hk' (by simpa using hn)
  simp only [H6,J7,Kf,Kq hlt,nn,Ub hlt,Sr,hx,Ch hlt hl,hih,Ao,Au,Al,Am,Ar,Ap,Ak,Av,Aw,Aq,Ax,cond_true,if_true,decide_true,Aa.eta,Aa.cp_eq,Ab.eta,Ab.cp_eq]
theorem Ae1(L:Nat)(a1:ByteArray)(a0:Ai)(n:Nat)(hl:a0.Params.length≤maxLen)(hn:a0.Params.length < n)(C5:Int)(Tf:Bool):H6 L a1 a0 n C5 Tf 0=Kf L a1 a0 a0.Params 0 C5 Tf:=Ae9 L a1 a0 hl _ 0 n C5 Tf rfl hn
def Ed(L:Nat)(a0:(List ByteArray))(a1:ByteArray):List ByteArray→Nat→Int→Option (Nat×(Int×Int))
 | [],i,Ah=>(some (1,(Ah,(i:Int))))
 |x::k,i,Ah=>(bif (a1.toList == x.toList) then (some (0,((i:Int),(i:Int))))
 else (Ed L a0 a1 k (i+1) Ah))
theorem Y5(L:Nat)(a0:(List ByteArray))(a1:ByteArray)(hl:a0.length≤maxLen):∀(k:List ByteArray) (i n:Nat) (Ah:Int),a0.drop i=k→k.length < n→Dm L a0 a1 n Ah (i:Int)=Ed L a0 a1 k i Ah:=by
 intro k
 induction k with
 |nil=>
  intro i n Ah hk hn
  obtain ⟨n,rfl⟩:∃m,n=m+1:=⟨n - 1,by simp at hn;omega⟩
  simp only [Dm,Ea,Ed,L2 (Ci hk),Ao,Au,Al,Am,Ar,Ap,Ak,Av,Aw,Aq,Ax,cond_false]
 |cons x k ih=>
  intro i n Ah hk hn
  obtain ⟨n,rfl⟩:∃m,n=m+1:=⟨n - 1,by simp at hn;omega⟩
  obtain ⟨hlt,hx,hk'⟩:=Cb hk
  have hih:=fun Ah=>ih (i+1) n Ah hk' (by simpa using hn)
  simp only [Dm,Ea,Ed,Kq hlt,nn,Ub hlt,Sr,hx,Ch hlt hl,hih,Ao,Au,Al,Am,Ar,Ap,Ak,Av,Aw,Aq,Ax,cond_true,if_true,decide_true,Aa.eta,Aa.cp_eq,Ab.eta,Ab.cp_eq]
theorem Y2(L:Nat)(a0:(List ByteArray))(a1:ByteArray)(n:Nat)(hl:a0.length≤maxLen)(hn:a0.length < n)(Ah:Int):Dm L a0 a1 n Ah 0=Ed L a0 a1 a0 0 Ah:=Y5 L a0 a1 hl _ 0 n Ah rfl hn
def Ht(L:Nat)(p1_0:List Bg)(p1_1:Ac)(p1_2:ByteArray):List Bg→Nat→Int→Option (Nat×(Int×Int))
 | [],i,Ae=>(some (1,(Ae,(i:Int))))
 |x::k,i,Ae=>(bif ((x.Name).toList == p1_2.toList) then (some (0,((i:Int),(i:Int))))
 else (Ht L p1_0 p1_1 p1_2 k (i+1) Ae))
theorem Acn(L:Nat)(p1_0:List Bg)(p1_1:Ac)(p1_2:ByteArray)(hl:p1_0.length≤maxLen):∀(k:List Bg) (i n:Nat) (Ae:Int),p1_0.drop i=k→k.length < n→Gq L p1_0 p1_1 p1_2 n Ae (i:Int)=Ht L p1_0 p1_1 p1_2 k i Ae:=by
 intro k
 induction k with
 |nil=>
  intro i n Ae hk hn
  obtain ⟨n,rfl⟩:∃m,n=m+1:=⟨n - 1,by simp at hn;omega⟩
  simp only [Gq,Hs,Ht,L2 (Ci hk),Ao,Au,Al,Am,Ar,Ap,Ak,Av,Aw,Aq,Ax,cond_false]
 |cons x k ih=>
  intro i n Ae hk hn
  obtain ⟨n,rfl⟩:∃m,n=m+1:=⟨n - 1,by simp at hn;omega⟩
  obtain ⟨hlt,hx,hk'⟩:=Cb hk
  have hih:=fun Ae=>ih (i+1) n Ae hk' (by simpa using hn)
  simp only [Gq,Hs,Ht,Kq hlt,nn,Ub hlt,Sr,hx,Ch hlt hl,hih,Ao,Au,Al,Am,Ar,Ap,Ak,Av,Aw,Aq,Ax,cond_true,if_true,decide_true,Aa.eta,Aa.cp_eq,Ab.eta,Ab.cp_eq]
theorem Acm(L:Nat)(p1_0:List Bg)(p1_1:Ac)(p1_2:ByteArray)(n:Nat)(hl:p1_0.length≤maxLen)(hn:p1_0.length < n)(Ae:Int):Gq L p1_0 p1_1 p1_2 n Ae 0=Ht L p1_0 p1_1 p1_2 p1_0 0 Ae:=Acn L p1_0 p1_1 p1_2 hl _ 0 n Ae rfl hn
def Ka(L:Nat)(p1_0:List Bp)(p1_1:Ac)(p1_2:ByteArray):List Bp→Nat→Int→Option (Nat×(Int×Int))
 | [],i,Ae=>(some (1,(Ae,(i:Int))))
 |x::k,i,Ae=>(bif ((x.Name).toList == p1_2.toList) then (some (0,((i:Int),(i:Int))))
 else (Ka L p1_0 p1_1 p1_2 k (i+1) Ae))
theorem Ae4(L:Nat)(p1_0:List Bp)(p1_1:Ac)(p1_2:ByteArray)(hl:p1_0.length≤maxLen):∀(k:List Bp) (i n:Nat) (Ae:Int),p1_0.drop i=k→k.length < n→H0 L p1_0 p1_1 p1_2 n Ae (i:Int)=Ka L p1_0 p1_1 p1_2 k i Ae:=by
 intro k
 induction k with
 |nil=>
  intro i n Ae hk hn
  obtain ⟨n,rfl⟩:∃m,n=m+1:=⟨n - 1,by simp at hn;omega⟩
  simp only [H0,J2,Ka,L2 (Ci hk),Ao,Au,Al,Am,Ar,Ap,Ak,Av,Aw,Aq,Ax,cond_false]
 |cons x k ih=>
  intro i n Ae hk hn
  obtain ⟨n,rfl⟩:∃m,n=m+1:=⟨n - 1,by simp at hn;omega⟩
  obtain ⟨hlt,hx,hk'⟩:=Cb hk
  have hih:=fun Ae=>ih (i+1) n Ae hk' (by simpa using hn)
  simp only [H0,J2,Ka,Kq hlt,nn,Ub hlt,Sr,hx,Ch hlt hl,hih,Ao,Au,Al,Am,Ar,Ap,Ak,Av,Aw,Aq,Ax,cond_true,if_true,decide_true,Aa.eta,Aa.cp_eq,Ab.eta,Ab.cp_eq]
theorem Aew(L:Nat)(p1_0:List Bp)(p1_1:Ac)(p1_2:ByteArray)(n:Nat)(hl:p1_0.length≤maxLen)(hn:p1_0.length < n)(Ae:Int):H0 L p1_0 p1_1 p1_2 n Ae 0=Ka L p1_0 p1_1 p1_2 p1_0 0 Ae:=Ae4 L p1_0 p1_1 p1_2 hl _ 0 n Ae rfl hn
def Kb(L:Nat)(p2_0:List Bf)(p2_1:Ac)(p2_2:ByteArray):List Bf→Nat→Int→Option (Nat×(Int×Int))
 | [],i,C5=>(some (1,(C5,(i:Int))))
 |x::k,i,C5=>(bif ((x.Name).toList == p2_2.toList) then (some (0,((i:Int),(i:Int))))
 else (Kb L p2_0 p2_1 p2_2 k (i+1) C5))
theorem Ae5(L:Nat)(p2_0:List Bf)(p2_1:Ac)(p2_2:ByteArray)(hl:p2_0.length≤maxLen):∀(k:List Bf) (i n:Nat) (C5:Int),p2_0.drop i=k→k.length < n→H1 L p2_0 p2_1 p2_2 n C5 (i:Int)=Kb L p2_0 p2_1 p2_2 k i C5:=by
 intro k
 induction k with
 |nil=>
  intro i n C5 hk hn
  obtain ⟨n,rfl⟩:∃m,n=m+1:=⟨n - 1,by simp at hn;omega⟩
  simp only [H1,J3,Kb,L2 (Ci hk),Ao,Au,Al,Am,Ar,Ap,Ak,Av,Aw,Aq,Ax,cond_false]
 |cons x k ih=>
  intro i n C5 hk hn
  obtain ⟨n,rfl⟩:∃m,n=m+1:=⟨n - 1,by simp at hn;omega⟩
  obtain ⟨hlt,hx,hk'⟩:=Cb hk
  have hih:=fun C5=>ih (i+1) n C5 hk' (by simpa using hn)
  simp only [H1,J3,Kb,Kq hlt,nn,Ub hlt,Sr,hx,Ch hlt hl,hih,Ao,Au,Al,Am,Ar,Ap,Ak,Av,Aw,Aq,Ax,cond_true,if_true,decide_true,Aa.eta,Aa.cp_eq,Ab.eta,Ab.cp_eq]
theorem Aex(L:Nat)(p2_0:List Bf)(p2_1:Ac)(p2_2:ByteArray)(n:Nat)(hl:p2_0.length≤maxLen)(hn:p2_0.length < n)(C5:Int):H1 L p2_0 p2_1 p2_2 n C5 0=Kb L p2_0 p2_1 p2_2 p2_0 0 C5:=Ae5 L p2_0 p2_1 p2_2 hl _ 0 n C5 rfl hn
def Kc(L:Nat)(p3_0:List Bx)(p3_1:Ac)(p3_2:ByteArray):List Bx→Nat→Int→Option (Nat×(Int×Int))
 | [],i,H9=>(some (1,(H9,(i:Int))))
 |x::k,i,H9=>(bif ((x.Name).toList == p3_2.toList) then (some (0,((i:Int),(i:Int))))
 else (Kc L p3_0 p3_1 p3_2 k (i+1) H9))
theorem Ae6(L:Nat)(p3_0:List Bx)(p3_1:Ac)(p3_2:ByteArray)(hl:p3_0.length≤maxLen):∀(k:List Bx) (i n:Nat) (H9:Int),p3_0.drop i=k→k.length < n→H2 L p3_0 p3_1 p3_2 n H9 (i:Int)=Kc L p3_0 p3_1 p3_2 k i H9:=by
 intro k
 induction k with
 |nil=>
  intro i n H9 hk hn
  obtain ⟨n,rfl⟩:∃m,n=m+1:=⟨n - 1,by simp at hn;omega⟩
  simp only [H2,J4,Kc,L2 (Ci hk),Ao,Au,Al,Am,Ar,Ap,Ak,Av,Aw,Aq,Ax,cond_false]
 |cons x k ih=>
  intro i n H9 hk hn
  obtain ⟨n,rfl⟩:∃m,n=m+1:=⟨n - 1,by simp at hn;omega⟩
  obtain ⟨hlt,hx,hk'⟩:=Cb hk
  have hih:=fun H9=>ih (i+1) n H9 hk' (by simpa using hn)
  simp only [H2,J4,Kc,Kq hlt,nn,Ub hlt,Sr,hx,Ch hlt hl,hih,Ao,Au,Al,Am,Ar,Ap,Ak,Av,Aw,Aq,Ax,cond_true,if_true,decide_true,Aa.eta,Aa.cp_eq,Ab.eta,Ab.cp_eq]
theorem Aey(L:Nat)(p3_0:List Bx)(p3_1:Ac)(p3_2:ByteArray)(n:Nat)(hl:p3_0.length≤maxLen)(hn:p3_0.length < n)(H9:Int):H2 L p3_0 p3_1 p3_2 n H9 0=Kc L p3_0 p3_1 p3_2 p3_0 0 H9:=Ae6 L p3_0 p3_1 p3_2 hl _ 0 n H9 rfl hn
def Kd(L:Nat)(p4_0:List B3)(p4_1:Ac)(p4_2:ByteArray):List B3→Nat→Int→Option (Nat×(Int×Int))
 | [],i,Ia=>(some (1,(Ia,(i:Int))))
 |x::k,i,Ia=>(bif ((x.Name).toList == p4_2.toList) then (some (0,((i:Int),(i:Int))))
 else (Kd L p4_0 p4_1 p4_2 k (i+1) Ia))
theorem Ae7(L:Nat)(p4_0:List B3)(p4_1:Ac)(p4_2:ByteArray)(hl:p4_0.length≤maxLen):∀(k:List B3) (i n:Nat) (Ia:Int),p4_0.drop i=k→k.length < n→H3 L p4_0 p4_1 p4_2 n Ia (i:Int)=Kd L p4_0 p4_1 p4_2 k i Ia:=by
 intro k
 induction k with
 |nil=>
  intro i n Ia hk hn
  obtain ⟨n,rfl⟩:∃m,n=m+1:=⟨n - 1,by simp at hn;omega⟩
  simp only [H3,J5,Kd,L2 (Ci hk),Ao,Au,Al,Am,Ar,Ap,Ak,Av,Aw,Aq,Ax,cond_false]
 |cons x k ih=>
  intro i n Ia hk hn
  obtain ⟨n,rfl⟩:∃m,n=m+1:=⟨n - 1,by simp at hn;omega⟩
  obtain ⟨hlt,hx,hk'⟩:=Cb hk
  have hih:=fun Ia=>ih (i+1) n Ia hk' (by simpa using hn)
  simp only [H3,J5,Kd,Kq hlt,nn,Ub hlt,Sr,hx,Ch hlt hl,hih,Ao,Au,Al,Am,Ar,Ap,Ak,Av,Aw,Aq,Ax,cond_true,if_true,decide_true,Aa.eta,Aa.cp_eq,Ab.eta,Ab.cp_eq]
theorem Aez(L:Nat)(p4_0:List B3)(p4_1:Ac)(p4_2:ByteArray)(n:Nat)(hl:p4_0.length≤maxLen)(hn:p4_0.length < n)(Ia:Int):H3 L p4_0 p4_1 p4_2 n Ia 0=Kd L p4_0 p4_1 p4_2 p4_0 0 Ia:=Ae7 L p4_0 p4_1 p4_2 hl _ 0 n Ia rfl hn
def H8(Ew:Ai→Aa→Option (Int×Int))(L:Nat)(a1:Aa)(a0:Ai):List Aa→Nat→Int→Int→List Int→Option (Nat×(Int×Int×List Int×Int))
 | [],i,A9,Ae,Ah=>(some (1,(A9,Ae,Ah,(i:Int))))
 |x::k,i,A9,Ae,Ah=>(Option.bind (Ew a0 x) fun r1=>
 (bif (r1.2 != 0) then (some (0,(0,r1.2,Ah,(i:Int))))
 else (if ((Ah.length+ [r1.1].length)*8≤140737488355328) then (if (Ah.length+ [r1.1].length≤maxLen) then (H8 Ew L a1 a0 k (i+1) A9 Ae (Ah++ [r1.1])) else none) else none)))
theorem Afa(Ew:Ai→Aa→Option (Int×Int))(L:Nat)(a1:Aa)(a0:Ai)(hl:a1.Kids.length≤maxLen):∀(k:List Aa) (i n:Nat) (A9:Int) (Ae:Int) (Ah:List Int),a1.Kids.drop i=k→k.length < n→H7 Ew L a1 a0 n A9 Ae Ah (i:Int)=H8 Ew L a1 a0 k i A9 Ae Ah:=by
 intro k
 induction k with
 |nil=>
  intro i n A9 Ae Ah hk hn
  obtain ⟨n,rfl⟩:∃m,n=m+1:=⟨n - 1,by simp at hn;omega⟩
  simp only [H7,J8,H8,L2 (Ci hk),Ao,Au,Al,Am,Ar,Ap,Ak,Av,Aw,Aq,Ax,cond_false]
 |cons x k ih=>
  intro i n A9 Ae Ah hk hn
  obtain ⟨n,rfl⟩:∃m,n=m+1:=⟨n - 1,by simp at hn;omega⟩
  obtain ⟨hlt,hx,hk'⟩:=Cb hk
  have hih:=fun A9 Ae Ah=>ih (i+1) n A9 Ae Ah hk' (by simpa using hn)
  simp only [H7,J8,H8,Kq hlt,nn,Ub hlt,Sr,hx,Ch hlt hl,hih,Ao,Au,Al,Am,Ar,Ap,Ak,Av,Aw,Aq,Ax,cond_true,if_true,decide_true,Aa.eta,Aa.cp_eq,Ab.eta,Ab.cp_eq]
theorem Ae2(Ew:Ai→Aa→Option (Int×Int))(L:Nat)(a1:Aa)(a0:Ai)(n:Nat)(hl:a1.Kids.length≤maxLen)(hn:a1.Kids.length < n)(A9:Int)(Ae:Int)(Ah:List Int):H7 Ew L a1 a0 n A9 Ae Ah 0=H8 Ew L a1 a0 a1.Kids 0 A9 Ae Ah:=Afa Ew L a1 a0 hl _ 0 n A9 Ae Ah rfl hn
end Go.Proofs.YtcbandfdmbkokaaGreat.Ev
