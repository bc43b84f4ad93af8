import Derived.Test.YtcbandfdmbkokaaGreatG5
import Derived.Test.YtcbandfdmbkokaaGreatPa
namespace Go.Proofs.YtcbandfdmbkokaaGreat.Ev
open Go
set_option maxRecDepth 100000
set_option linter.unusedVariables false
set_option linter.unusedSimpArgs false
set_option linter.unnecessarySimpa false
def Lv(Gf:Ai→Aa→Option (Int×Int))(L:Nat)(a0:Ai)(a1:Aa):List Aa→Nat→Int→Int→List Int→Option (Nat×(Int×Int×List Int×Int))
 | [],i,A9,Ae,Ah=>(some (1,(A9,Ae,Ah,(i:Int))))
 |x::k,i,A9,Ae,Ah=>(Option.bind (Gf a0 x) fun r1=>
 (bif (r1.2 != 0) then (some (0,(0,r1.2,Ah,(i:Int))))
 else (if ((Ah.length+ [r1.1].length)*8≤140737488355328) then (if (Ah.length+ [r1.1].length≤maxLen) then (Lv Gf L a0 a1 k (i+1) A9 Ae (Ah++ [r1.1])) else none) else none)))
theorem Ajk(Gf:Ai→Aa→Option (Int×Int))(L:Nat)(a0:Ai)(a1:Aa)(hl:a1.Kids.length≤maxLen):∀(k:List Aa) (i n:Nat) (A9:Int) (Ae:Int) (Ah:List Int),a1.Kids.drop i=k→k.length < n→Lm Gf L a0 a1 n A9 Ae Ah (i:Int)=Lv Gf L a0 a1 k i A9 Ae Ah:=by
 intro k
 induction k with
 |nil=>
  intro i n A9 Ae Ah hk hn
  obtain ⟨n,rfl⟩:∃m,n=m+1:=⟨n - 1,by simp at hn;omega⟩
  simp only [Lm,N6,Lv,L2 (Ci hk),Ao,Au,Al,Am,Ar,Ap,Ak,Av,Aw,Aq,Ax,cond_false]
 |cons x k ih=>
  intro i n A9 Ae Ah hk hn
  obtain ⟨n,rfl⟩:∃m,n=m+1:=⟨n - 1,by simp at hn;omega⟩
  obtain ⟨hlt,hx,hk'⟩:=Cb hk
  have hih:=fun A9 Ae Ah=>ih (i+1) n A9 Ae Ah hk' (by simpa using hn)
  simp only [Lm,N6,Lv,Kq hlt,nn,Ub hlt,Sr,hx,Ch hlt hl,hih,Ao,Au,Al,Am,Ar,Ap,Ak,Av,Aw,Aq,Ax,cond_true,if_true,decide_true,Aa.eta,Aa.cp_eq,Ab.eta,Ab.cp_eq]
theorem Ai7(Gf:Ai→Aa→Option (Int×Int))(L:Nat)(a0:Ai)(a1:Aa)(n:Nat)(hl:a1.Kids.length≤maxLen)(hn:a1.Kids.length < n)(A9:Int)(Ae:Int)(Ah:List Int):Lm Gf L a0 a1 n A9 Ae Ah 0=Lv Gf L a0 a1 a1.Kids 0 A9 Ae Ah:=Ajk Gf L a0 a1 hl _ 0 n A9 Ae Ah rfl hn
def P4(L:Nat)(a2:(List Be))(a0:Ai)(a1:Ab):List Be→Nat→Int→Option (Nat×(Int×Int))
 | [],i,Ae=>(some (1,(Ae,(i:Int))))
 |x::k,i,Ae=>(if ((i:Int) < ((a1.Args.length:Nat):Int)) then (Option.bind (Eg L a0 (a1.Args.getD (Int.toNat (i:Int)) default) (x.Type_) (x.Type_)) fun r1=>
 (bif (r1 != 0) then (some (0,(r1,(i:Int))))
 else (P4 L a2 a0 a1 k (i+1) Ae))) else none)
theorem Al4(L:Nat)(a2:(List Be))(a0:Ai)(a1:Ab)(hl:a2.length≤maxLen):∀(k:List Be) (i n:Nat) (Ae:Int),a2.drop i=k→k.length < n→Nc L a2 a0 a1 n Ae (i:Int)=P4 L a2 a0 a1 k i Ae:=by
 intro k
 induction k with
 |nil=>
  intro i n Ae hk hn
  obtain ⟨n,rfl⟩:∃m,n=m+1:=⟨n - 1,by simp at hn;omega⟩
  simp only [Nc,P0,P4,L2 (Ci hk),Ao,Au,Al,Am,Ar,Ap,Ak,Av,Aw,Aq,Ax,cond_false]
 |cons x k ih=>
  intro i n Ae hk hn
  obtain ⟨n,rfl⟩:∃m,n=m+1:=⟨n - 1,by simp at hn;omega⟩
  obtain ⟨hlt,hx,hk'⟩:=Cb hk
  have hih:=fun Ae=>ih (i+1) n Ae hk' (by simpa using hn)
  simp only [Nc,P0,P4,Kq hlt,nn,Ub hlt,Sr,hx,Ch hlt hl,hih,Ao,Au,Al,Am,Ar,Ap,Ak,Av,Aw,Aq,Ax,cond_true,if_true,decide_true,Aa.eta,Aa.cp_eq,Ab.eta,Ab.cp_eq]
theorem Alx(L:Nat)(a2:(List Be))(a0:Ai)(a1:Ab)(n:Nat)(hl:a2.length≤maxLen)(hn:a2.length < n)(Ae:Int):Nc L a2 a0 a1 n Ae 0=P4 L a2 a0 a1 a2 0 Ae:=Al4 L a2 a0 a1 hl _ 0 n Ae rfl hn
def P3(L:Nat)(a1:ByteArray)(a0:Af):List Ac→Nat→Int→Option (Nat×(Int×Int))
 | [],i,Ae=>(some (1,(Ae,(i:Int))))
 |x::k,i,Ae=>(bif ((x.Name).toList == a1.toList) then (some (0,((i:Int),(i:Int))))
 else (P3 L a1 a0 k (i+1) Ae))
theorem Al3(L:Nat)(a1:ByteArray)(a0:Af)(hl:a0.Sites.length≤maxLen):∀(k:List Ac) (i n:Nat) (Ae:Int),a0.Sites.drop i=k→k.length < n→Nb L a1 a0 n Ae (i:Int)=P3 L a1 a0 k i Ae:=by
 intro k
 induction k with
 |nil=>
  intro i n Ae hk hn
  obtain ⟨n,rfl⟩:∃m,n=m+1:=⟨n - 1,by simp at hn;omega⟩
  simp only [Nb,Pz,P3,L2 (Ci hk),Ao,Au,Al,Am,Ar,Ap,Ak,Av,Aw,Aq,Ax,cond_false]
 |cons x k ih=>
  intro i n Ae hk hn
  obtain ⟨n,rfl⟩:∃m,n=m+1:=⟨n - 1,by simp at hn;omega⟩
  obtain ⟨hlt,hx,hk'⟩:=Cb hk
  have hih:=fun Ae=>ih (i+1) n Ae hk' (by simpa using hn)
  simp only [Nb,Pz,P3,Kq hlt,nn,Ub hlt,Sr,hx,Ch hlt hl,hih,Ao,Au,Al,Am,Ar,Ap,Ak,Av,Aw,Aq,Ax,cond_true,if_true,decide_true,Aa.eta,Aa.cp_eq,Ab.eta,Ab.cp_eq]
theorem Alw(L:Nat)(a1:ByteArray)(a0:Af)(n:Nat)(hl:a0.Sites.length≤maxLen)(hn:a0.Sites.length < n)(Ae:Int):Nb L a1 a0 n Ae 0=P3 L a1 a0 a0.Sites 0 Ae:=Al3 L a1 a0 hl _ 0 n Ae rfl hn
def P2(L:Nat)(a1:ByteArray)(a2:ByteArray)(a0:Af):List Cq→Nat→Int→Bool→Option (Nat×(Int×Bool×Int))
 | [],i,Ah,Aj=>(some (1,(Ah,Aj,(i:Int))))
 |x::k,i,Ah,Aj=>(Option.bind (bif ((x.From).toList == a1.toList) then (if (0:Int)≤(i:Int) then (if (i:Int) < ((a0.Links.length:Nat):Int) then (some ((x.To).toList == a2.toList)) else none) else none) else (some false)) fun b1=>
 (bif b1 then (some (0,((x.Delay),true,(i:Int))))
 else (P2 L a1 a2 a0 k (i+1) Ah Aj)))
theorem Al2(L:Nat)(a1:ByteArray)(a2:ByteArray)(a0:Af)(hl:a0.Links.length≤maxLen):∀(k:List Cq) (i n:Nat) (Ah:Int) (Aj:Bool),a0.Links.drop i=k→k.length < n→Na L a1 a2 a0 n Ah Aj (i:Int)=P2 L a1 a2 a0 k i Ah Aj:=by
 intro k
 induction k with
 |nil=>
  intro i n Ah Aj hk hn
  obtain ⟨n,rfl⟩:∃m,n=m+1:=⟨n - 1,by simp at hn;omega⟩
  simp only [Na,Py,P2,L2 (Ci hk),Ao,Au,Al,Am,Ar,Ap,Ak,Av,Aw,Aq,Ax,cond_false]
 |cons x k ih=>
  intro i n Ah Aj hk hn
  obtain ⟨n,rfl⟩:∃m,n=m+1:=⟨n - 1,by simp at hn;omega⟩
  obtain ⟨hlt,hx,hk'⟩:=Cb hk
  have hih:=fun Ah Aj=>ih (i+1) n Ah Aj hk' (by simpa using hn)
  simp only [Na,Py,P2,Kq hlt,nn,Ub hlt,Sr,hx,Ch hlt hl,hih,Ao,Au,Al,Am,Ar,Ap,Ak,Av,Aw,Aq,Ax,cond_true,if_true,decide_true,Aa.eta,Aa.cp_eq,Ab.eta,Ab.cp_eq]
theorem Alv(L:Nat)(a1:ByteArray)(a2:ByteArray)(a0:Af)(n:Nat)(hl:a0.Links.length≤maxLen)(hn:a0.Links.length < n)(Ah:Int)(Aj:Bool):Na L a1 a2 a0 n Ah Aj 0=P2 L a1 a2 a0 a0.Links 0 Ah Aj:=Al2 L a1 a2 a0 hl _ 0 n Ah Aj rfl hn
def Hl(Ep:Af→Ai→(List Ab)→Option Int)(L:Nat)(a2:(List Ab))(a0:Af)(a1:Ai):List Ab→Nat→Int→Option (Nat×(Int×Int))
 | [],i,Ae=>(some (1,(Ae,(i:Int))))
 |x::k,i,Ae=>(Option.bind (Rl L a0 a1 x) fun r1=>
 (bif (r1 == 0) then (Option.bind (Ep a0 a1 (x.Body)) fun r2=>
 (bif (r2 == 0) then (Option.bind (Ep a0 a1 (x.Else)) fun r3=>
 (bif (r3 != 0) then (some (0,(r3,(i:Int))))
 else (Hl Ep L a2 a0 a1 k (i+1) Ae)))
 else (bif (r2 != 0) then (some (0,(r2,(i:Int))))
 else (Hl Ep L a2 a0 a1 k (i+1) Ae))))
 else (bif (r1 == 0) then (Option.bind (Ep a0 a1 (x.Else)) fun r4=>
 (bif (r4 != 0) then (some (0,(r4,(i:Int))))
 else (Hl Ep L a2 a0 a1 k (i+1) Ae)))
 else (bif (r1 != 0) then (some (0,(r1,(i:Int))))
 else (Hl Ep L a2 a0 a1 k (i+1) Ae)))))
theorem Ajj(Ep:Af→Ai→(List Ab)→Option Int)(L:Nat)(a2:(List Ab))(a0:Af)(a1:Ai)(hl:a2.length≤maxLen):∀(k:List Ab) (i n:Nat) (Ae:Int),a2.drop i=k→k.length < n→Ll Ep L a2 a0 a1 n Ae (i:Int)=Hl Ep L a2 a0 a1 k i Ae:=by
 intro k
 induction k with
 |nil=>
  intro i n Ae hk hn
  obtain ⟨n,rfl⟩:∃m,n=m+1:=⟨n - 1,by simp at hn;omega⟩
  simp only [Ll,N5,Hl,L2 (Ci hk),Ao,Au,Al,Am,Ar,Ap,Ak,Av,Aw,Aq,Ax,cond_false]
 |cons x k ih=>
  intro i n Ae hk hn
  obtain ⟨n,rfl⟩:∃m,n=m+1:=⟨n - 1,by simp at hn;omega⟩
  obtain ⟨hlt,hx,hk'⟩:=Cb hk
  have hih:=fun Ae=>ih (i+1) n Ae hk' (by simpa using hn)
  simp only [Ll,N5,Hl,Kq hlt,nn,Ub hlt,Sr,hx,Ch hlt hl,hih,Ao,Au,Al,Am,Ar,Ap,Ak,Av,Aw,Aq,Ax,cond_true,if_true,decide_true,Aa.eta,Aa.cp_eq,Ab.eta,Ab.cp_eq]
theorem Ai6(Ep:Af→Ai→(List Ab)→Option Int)(L:Nat)(a2:(List Ab))(a0:Af)(a1:Ai)(n:Nat)(hl:a2.length≤maxLen)(hn:a2.length < n)(Ae:Int):Ll Ep L a2 a0 a1 n Ae 0=Hl Ep L a2 a0 a1 a2 0 Ae:=Ajj Ep L a2 a0 a1 hl _ 0 n Ae rfl hn
end Go.Proofs.YtcbandfdmbkokaaGreat.Ev
