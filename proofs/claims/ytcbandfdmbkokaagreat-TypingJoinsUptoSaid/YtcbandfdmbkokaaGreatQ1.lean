import Derived.Test.YtcbandfdmbkokaaGreatG1
import Derived.Test.YtcbandfdmbkokaaGreatPa
namespace Go.Proofs.YtcbandfdmbkokaaGreat.Ev
open Go
set_option maxRecDepth 100000
set_option linter.unusedVariables false
set_option linter.unusedSimpArgs false
set_option linter.unnecessarySimpa false
def Lo(Fv:(List Ab)→Option Int)(L:Nat)(a0:(List Ab)):List Ab→Nat→Int→Option (Nat×(Int×Int))
 | [],i,Ah=>(some (0,(Ah,(i:Int))))
 |x::k,i,Ah=>(Option.bind (Fv (x.Body)) fun r1=>
 (Option.bind (Fv (x.Else)) fun r2=>
 (Lo Fv L a0 k (i+1) (F9 ((F9 ((F9 (Ah+1))+r1))+r2)))))
theorem Ajc(Fv:(List Ab)→Option Int)(L:Nat)(a0:(List Ab))(hl:a0.length≤maxLen):∀(k:List Ab) (i n:Nat) (Ah:Int),a0.drop i=k→k.length < n→Lc Fv L a0 n Ah (i:Int)=Lo Fv L a0 k i Ah:=by
 intro k
 induction k with
 |nil=>
  intro i n Ah hk hn
  obtain ⟨n,rfl⟩:∃m,n=m+1:=⟨n - 1,by simp at hn;omega⟩
  simp only [Lc,Ny,Lo,L2 (Ci hk),Ao,Au,Al,Am,Ar,Ap,Ak,Av,Aw,Aq,Ax,cond_false]
 |cons x k ih=>
  intro i n Ah hk hn
  obtain ⟨n,rfl⟩:∃m,n=m+1:=⟨n - 1,by simp at hn;omega⟩
  obtain ⟨hlt,hx,hk'⟩:=Cb hk
  have hih:=fun Ah=>ih (i+1) n Ah hk' (by simpa using hn)
  simp only [Lc,Ny,Lo,Kq hlt,nn,Ub hlt,Sr,hx,Ch hlt hl,hih,Ao,Au,Al,Am,Ar,Ap,Ak,Av,Aw,Aq,Ax,cond_true,if_true,decide_true,Aa.eta,Aa.cp_eq,Ab.eta,Ab.cp_eq]
theorem Aiz(Fv:(List Ab)→Option Int)(L:Nat)(a0:(List Ab))(n:Nat)(hl:a0.length≤maxLen)(hn:a0.length < n)(Ah:Int):Lc Fv L a0 n Ah 0=Lo Fv L a0 a0 0 Ah:=Ajc Fv L a0 hl _ 0 n Ah rfl hn
def Rq(L:Nat)(a0:Af):List Ac→Nat→Bool→Int→Option (Nat×(Bool×Int×Int))
 | [],i,A9,Ae=>(some (1,(A9,Ae,(i:Int))))
 |x::k,i,A9,Ae=>(Option.bind (M3 L (⟨a0.Params,[],x⟩:Ai)) fun r1=>
 (bif (!r1) then (some (0,(false,Ae,(i:Int))))
 else (Option.bind (Rp L A9 (i:Int) a0 L Ae 0) fun o2=>
 (Acv o2.1 [(Rq L a0 k (i+1) A9 o2.2.1)]))))
theorem Aok(L:Nat)(a0:Af)(hl:a0.Sites.length≤maxLen):∀(k:List Ac) (i n:Nat) (A9:Bool) (Ae:Int),a0.Sites.drop i=k→k.length < n→Pq L a0 n A9 Ae (i:Int)=Rq L a0 k i A9 Ae:=by
 intro k
 induction k with
 |nil=>
  intro i n A9 Ae hk hn
  obtain ⟨n,rfl⟩:∃m,n=m+1:=⟨n - 1,by simp at hn;omega⟩
  simp only [Pq,Ph,Rq,L2 (Ci hk),Ao,Au,Al,Am,Ar,Ap,Ak,Av,Aw,Aq,Ax,cond_false]
 |cons x k ih=>
  intro i n A9 Ae hk hn
  obtain ⟨n,rfl⟩:∃m,n=m+1:=⟨n - 1,by simp at hn;omega⟩
  obtain ⟨hlt,hx,hk'⟩:=Cb hk
  have hih:=fun A9 Ae=>ih (i+1) n A9 Ae hk' (by simpa using hn)
  simp only [Pq,Ph,Rq,Kq hlt,nn,Ub hlt,Sr,hx,Ch hlt hl,hih,Ao,Au,Al,Am,Ar,Ap,Ak,Av,Aw,Aq,Ax,cond_true,if_true,decide_true,Aa.eta,Aa.cp_eq,Ab.eta,Ab.cp_eq]
theorem Aoj(L:Nat)(a0:Af)(n:Nat)(hl:a0.Sites.length≤maxLen)(hn:a0.Sites.length < n)(A9:Bool)(Ae:Int):Pq L a0 n A9 Ae 0=Rq L a0 a0.Sites 0 A9 Ae:=Aok L a0 hl _ 0 n A9 Ae rfl hn
def Ji(F1:(List Ab)→Option Int)(L:Nat)(a0:(List Ab)):List Ab→Nat→Int→Option (Nat×(Int×Int))
 | [],i,Ae=>(some (0,(Ae,(i:Int))))
 |x::k,i,Ae=>(Option.bind (F1 (x.Body)) fun r1=>
 (Option.bind (F1 (x.Else)) fun r2=>
 (Ji F1 L a0 k (i+1) (F9 (Ae+(F9 (r1+r2)))))))
theorem Ag4(F1:(List Ab)→Option Int)(L:Nat)(a0:(List Ab))(hl:a0.length≤maxLen):∀(k:List Ab) (i n:Nat) (Ae:Int),a0.drop i=k→k.length < n→Jc F1 L a0 n Ae (i:Int)=Ji F1 L a0 k i Ae:=by
 intro k
 induction k with
 |nil=>
  intro i n Ae hk hn
  obtain ⟨n,rfl⟩:∃m,n=m+1:=⟨n - 1,by simp at hn;omega⟩
  simp only [Jc,Me,Ji,L2 (Ci hk),Ao,Au,Al,Am,Ar,Ap,Ak,Av,Aw,Aq,Ax,cond_false]
 |cons x k ih=>
  intro i n Ae hk hn
  obtain ⟨n,rfl⟩:∃m,n=m+1:=⟨n - 1,by simp at hn;omega⟩
  obtain ⟨hlt,hx,hk'⟩:=Cb hk
  have hih:=fun Ae=>ih (i+1) n Ae hk' (by simpa using hn)
  simp only [Jc,Me,Ji,Kq hlt,nn,Ub hlt,Sr,hx,Ch hlt hl,hih,Ao,Au,Al,Am,Ar,Ap,Ak,Av,Aw,Aq,Ax,cond_true,if_true,decide_true,Aa.eta,Aa.cp_eq,Ab.eta,Ab.cp_eq]
theorem Agv(F1:(List Ab)→Option Int)(L:Nat)(a0:(List Ab))(n:Nat)(hl:a0.length≤maxLen)(hn:a0.length < n)(Ae:Int):Jc F1 L a0 n Ae 0=Ji F1 L a0 a0 0 Ae:=Ag4 F1 L a0 hl _ 0 n Ae rfl hn
def Jj(F2:(List Ab)→Option Int)(L:Nat)(a0:(List Ab)):List Ab→Nat→Int→Option (Nat×(Int×Int))
 | [],i,Ae=>(some (0,(Ae,(i:Int))))
 |x::k,i,Ae=>(Option.bind (F2 (x.Body)) fun r1=>
 (Option.bind (F2 (x.Else)) fun r2=>
 (Jj F2 L a0 k (i+1) (if (F9 (1+r2)) > (if (F9 (1+r1)) > Ae then (F9 (1+r1)) else Ae) then (F9 (1+r2)) else (if (F9 (1+r1)) > Ae then (F9 (1+r1)) else Ae)))))
theorem Ag5(F2:(List Ab)→Option Int)(L:Nat)(a0:(List Ab))(hl:a0.length≤maxLen):∀(k:List Ab) (i n:Nat) (Ae:Int),a0.drop i=k→k.length < n→Jd F2 L a0 n Ae (i:Int)=Jj F2 L a0 k i Ae:=by
 intro k
 induction k with
 |nil=>
  intro i n Ae hk hn
  obtain ⟨n,rfl⟩:∃m,n=m+1:=⟨n - 1,by simp at hn;omega⟩
  simp only [Jd,Mf,Jj,L2 (Ci hk),Ao,Au,Al,Am,Ar,Ap,Ak,Av,Aw,Aq,Ax,cond_false]
 |cons x k ih=>
  intro i n Ae hk hn
  obtain ⟨n,rfl⟩:∃m,n=m+1:=⟨n - 1,by simp at hn;omega⟩
  obtain ⟨hlt,hx,hk'⟩:=Cb hk
  have hih:=fun Ae=>ih (i+1) n Ae hk' (by simpa using hn)
  simp only [Jd,Mf,Jj,Kq hlt,nn,Ub hlt,Sr,hx,Ch hlt hl,hih,Ao,Au,Al,Am,Ar,Ap,Ak,Av,Aw,Aq,Ax,cond_true,if_true,decide_true,Aa.eta,Aa.cp_eq,Ab.eta,Ab.cp_eq]
theorem Agw(F2:(List Ab)→Option Int)(L:Nat)(a0:(List Ab))(n:Nat)(hl:a0.length≤maxLen)(hn:a0.length < n)(Ae:Int):Jd F2 L a0 n Ae 0=Jj F2 L a0 a0 0 Ae:=Ag5 F2 L a0 hl _ 0 n Ae rfl hn
def Qp(Dq:Aa→Aa→Option Bool)(L:Nat)(a0:Aa)(a1:Aa):List Aa→Nat→Bool→Option (Nat×(Bool×Int))
 | [],i,A9=>(some (1,(A9,(i:Int))))
 |x::k,i,A9=>(if ((i:Int) < ((a1.Kids.length:Nat):Int)) then (Option.bind (Dq x (a1.Kids.getD (Int.toNat (i:Int)) default)) fun r4=>
 (bif (!r4) then (some (0,(false,(i:Int))))
 else (Qp Dq L a0 a1 k (i+1) A9))) else none)
theorem Ajl(Dq:Aa→Aa→Option Bool)(L:Nat)(a0:Aa)(a1:Aa)(hl:a0.Kids.length≤maxLen):∀(k:List Aa) (i n:Nat) (A9:Bool),a0.Kids.drop i=k→k.length < n→Ln Dq L a0 a1 n A9 (i:Int)=Qp Dq L a0 a1 k i A9:=by
 intro k
 induction k with
 |nil=>
  intro i n A9 hk hn
  obtain ⟨n,rfl⟩:∃m,n=m+1:=⟨n - 1,by simp at hn;omega⟩
  simp only [Ln,N7,Qp,L2 (Ci hk),Ao,Au,Al,Am,Ar,Ap,Ak,Av,Aw,Aq,Ax,cond_false]
 |cons x k ih=>
  intro i n A9 hk hn
  obtain ⟨n,rfl⟩:∃m,n=m+1:=⟨n - 1,by simp at hn;omega⟩
  obtain ⟨hlt,hx,hk'⟩:=Cb hk
  have hih:=fun A9=>ih (i+1) n A9 hk' (by simpa using hn)
  simp only [Ln,N7,Qp,Kq hlt,nn,Ub hlt,Sr,hx,Ch hlt hl,hih,Ao,Au,Al,Am,Ar,Ap,Ak,Av,Aw,Aq,Ax,cond_true,if_true,decide_true,Aa.eta,Aa.cp_eq,Ab.eta,Ab.cp_eq]
theorem Ai8(Dq:Aa→Aa→Option Bool)(L:Nat)(a0:Aa)(a1:Aa)(n:Nat)(hl:a0.Kids.length≤maxLen)(hn:a0.Kids.length < n)(A9:Bool):Ln Dq L a0 a1 n A9 0=Qp Dq L a0 a1 a0.Kids 0 A9:=Ajl Dq L a0 a1 hl _ 0 n A9 rfl hn
def F8(L:Nat)(a0:(List Int))(a1:(List Int)):List Int→Nat→Bool→Option (Nat×(Bool×Int))
 | [],i,Ah=>(some (1,(Ah,(i:Int))))
 |x::k,i,Ah=>(if ((i:Int) < ((a1.length:Nat):Int)) then (bif (x != (a1.getD (Int.toNat (i:Int)) default)) then (some (0,(false,(i:Int))))
 else (F8 L a0 a1 k (i+1) Ah)) else none)
theorem u9(L:Nat)(a0:(List Int))(a1:(List Int))(hl:a0.length≤maxLen):∀(k:List Int) (i n:Nat) (Ah:Bool),a0.drop i=k→k.length < n→Ej L a0 a1 n Ah (i:Int)=F8 L a0 a1 k i Ah:=by
 intro k
 induction k with
 |nil=>
  intro i n Ah hk hn
  obtain ⟨n,rfl⟩:∃m,n=m+1:=⟨n - 1,by simp at hn;omega⟩
  simp only [Ej,F7,F8,L2 (Ci hk),Ao,Au,Al,Am,Ar,Ap,Ak,Av,Aw,Aq,Ax,cond_false]
 |cons x k ih=>
  intro i n Ah hk hn
  obtain ⟨n,rfl⟩:∃m,n=m+1:=⟨n - 1,by simp at hn;omega⟩
  obtain ⟨hlt,hx,hk'⟩:=Cb hk
  have hih:=fun Ah=>ih (i+1) n Ah hk' (by simpa using hn)
  simp only [Ej,F7,F8,Kq hlt,nn,Ub hlt,Sr,hx,Ch hlt hl,hih,Ao,Au,Al,Am,Ar,Ap,Ak,Av,Aw,Aq,Ax,cond_true,if_true,decide_true,Aa.eta,Aa.cp_eq,Ab.eta,Ab.cp_eq]
theorem u7(L:Nat)(a0:(List Int))(a1:(List Int))(n:Nat)(hl:a0.length≤maxLen)(hn:a0.length < n)(Ah:Bool):Ej L a0 a1 n Ah 0=F8 L a0 a1 a0 0 Ah:=u9 L a0 a1 hl _ 0 n Ah rfl hn
def Mk(Ey:Aa→Option Int)(L:Nat)(a0:Aa):List Aa→Nat→Int→Option (Nat×(Int×Int))
 | [],i,Ae=>(some (0,(Ae,(i:Int))))
 |x::k,i,Ae=>(Option.bind (Ey x) fun r1=>
 (Mk Ey L a0 k (i+1) (F9 (Ae+r1))))
theorem Ag1(Ey:Aa→Option Int)(L:Nat)(a0:Aa)(hl:a0.Kids.length≤maxLen):∀(k:List Aa) (i n:Nat) (Ae:Int),a0.Kids.drop i=k→k.length < n→I9 Ey L a0 n Ae (i:Int)=Mk Ey L a0 k i Ae:=by
 intro k
 induction k with
 |nil=>
  intro i n Ae hk hn
  obtain ⟨n,rfl⟩:∃m,n=m+1:=⟨n - 1,by simp at hn;omega⟩
  simp only [I9,Mb,Mk,L2 (Ci hk),Ao,Au,Al,Am,Ar,Ap,Ak,Av,Aw,Aq,Ax,cond_false]
 |cons x k ih=>
  intro i n Ae hk hn
  obtain ⟨n,rfl⟩:∃m,n=m+1:=⟨n - 1,by simp at hn;omega⟩
  obtain ⟨hlt,hx,hk'⟩:=Cb hk
  have hih:=fun Ae=>ih (i+1) n Ae hk' (by simpa using hn)
  simp only [I9,Mb,Mk,Kq hlt,nn,Ub hlt,Sr,hx,Ch hlt hl,hih,Ao,Au,Al,Am,Ar,Ap,Ak,Av,Aw,Aq,Ax,cond_true,if_true,decide_true,Aa.eta,Aa.cp_eq,Ab.eta,Ab.cp_eq]
theorem Ags(Ey:Aa→Option Int)(L:Nat)(a0:Aa)(n:Nat)(hl:a0.Kids.length≤maxLen)(hn:a0.Kids.length < n)(Ae:Int):I9 Ey L a0 n Ae 0=Mk Ey L a0 a0.Kids 0 Ae:=Ag1 Ey L a0 hl _ 0 n Ae rfl hn
def Mj(Ez:Aa→Option Int)(L:Nat)(a0:Aa):List Aa→Nat→Int→Option (Nat×(Int×Int))
 | [],i,Ae=>(some (0,(Ae,(i:Int))))
 |x::k,i,Ae=>(Option.bind (Ez x) fun r1=>
 (Mj Ez L a0 k (i+1) (if r1 > Ae then r1 else Ae)))
theorem Ag0(Ez:Aa→Option Int)(L:Nat)(a0:Aa)(hl:a0.Kids.length≤maxLen):∀(k:List Aa) (i n:Nat) (Ae:Int),a0.Kids.drop i=k→k.length < n→I8 Ez L a0 n Ae (i:Int)=Mj Ez L a0 k i Ae:=by
 intro k
 induction k with
 |nil=>
  intro i n Ae hk hn
  obtain ⟨n,rfl⟩:∃m,n=m+1:=⟨n - 1,by simp at hn;omega⟩
  simp only [I8,Ma,Mj,L2 (Ci hk),Ao,Au,Al,Am,Ar,Ap,Ak,Av,Aw,Aq,Ax,cond_false]
 |cons x k ih=>
  intro i n Ae hk hn
  obtain ⟨n,rfl⟩:∃m,n=m+1:=⟨n - 1,by simp at hn;omega⟩
  obtain ⟨hlt,hx,hk'⟩:=Cb hk
  have hih:=fun Ae=>ih (i+1) n Ae hk' (by simpa using hn)
  simp only [I8,Ma,Mj,Kq hlt,nn,Ub hlt,Sr,hx,Ch hlt hl,hih,Ao,Au,Al,Am,Ar,Ap,Ak,Av,Aw,Aq,Ax,cond_true,if_true,decide_true,Aa.eta,Aa.cp_eq,Ab.eta,Ab.cp_eq]
theorem Agr(Ez:Aa→Option Int)(L:Nat)(a0:Aa)(n:Nat)(hl:a0.Kids.length≤maxLen)(hn:a0.Kids.length < n)(Ae:Int):I8 Ez L a0 n Ae 0=Mj Ez L a0 a0.Kids 0 Ae:=Ag0 Ez L a0 hl _ 0 n Ae rfl hn
def E6(E0:Bu→Aa→Option Int)(L:Nat)(a1:Aa)(a0:Bu):List Aa→Nat→Int→Option (Nat×(Int×Int))
 | [],i,A9=>(some (1,(A9,(i:Int))))
 |x::k,i,A9=>(Option.bind (E0 a0 x) fun r2=>
 (bif (r2 != 0) then (some (0,(r2,(i:Int))))
 else (E6 E0 L a1 a0 k (i+1) A9)))
theorem Aah(E0:Bu→Aa→Option Int)(L:Nat)(a1:Aa)(a0:Bu)(hl:a1.Kids.length≤maxLen):∀(k:List Aa) (i n:Nat) (A9:Int),a1.Kids.drop i=k→k.length < n→E5 E0 L a1 a0 n A9 (i:Int)=E6 E0 L a1 a0 k i A9:=by
 intro k
 induction k with
 |nil=>
  intro i n A9 hk hn
  obtain ⟨n,rfl⟩:∃m,n=m+1:=⟨n - 1,by simp at hn;omega⟩
  simp only [E5,Gn,E6,L2 (Ci hk),Ao,Au,Al,Am,Ar,Ap,Ak,Av,Aw,Aq,Ax,cond_false]
 |cons x k ih=>
  intro i n A9 hk hn
  obtain ⟨n,rfl⟩:∃m,n=m+1:=⟨n - 1,by simp at hn;omega⟩
  obtain ⟨hlt,hx,hk'⟩:=Cb hk
  have hih:=fun A9=>ih (i+1) n A9 hk' (by simpa using hn)
  simp only [E5,Gn,E6,Kq hlt,nn,Ub hlt,Sr,hx,Ch hlt hl,hih,Ao,Au,Al,Am,Ar,Ap,Ak,Av,Aw,Aq,Ax,cond_true,if_true,decide_true,Aa.eta,Aa.cp_eq,Ab.eta,Ab.cp_eq]
theorem Aag(E0:Bu→Aa→Option Int)(L:Nat)(a1:Aa)(a0:Bu)(n:Nat)(hl:a1.Kids.length≤maxLen)(hn:a1.Kids.length < n)(A9:Int):E5 E0 L a1 a0 n A9 0=E6 E0 L a1 a0 a1.Kids 0 A9:=Aah E0 L a1 a0 hl _ 0 n A9 rfl hn
end Go.Proofs.YtcbandfdmbkokaaGreat.Ev
