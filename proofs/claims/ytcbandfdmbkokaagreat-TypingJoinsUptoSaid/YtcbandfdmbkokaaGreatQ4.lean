import Derived.Test.YtcbandfdmbkokaaGreatG4
import Derived.Test.YtcbandfdmbkokaaGreatPa
namespace Go.Proofs.YtcbandfdmbkokaaGreat.Ev
open Go
set_option maxRecDepth 100000
set_option linter.unusedVariables false
set_option linter.unusedSimpArgs false
set_option linter.unnecessarySimpa false
def N9(Gh:Aa→Option Int)(L:Nat)(a0:Aa):List Aa→Nat→Int→Option (Nat×(Int×Int))
 | [],i,Ae=>(some (0,(Ae,(i:Int))))
 |x::k,i,Ae=>(Option.bind (Gh x) fun r1=>
 (N9 Gh L a0 k (i+1) (if r1 > Ae then r1 else Ae)))
theorem Aja(Gh:Aa→Option Int)(L:Nat)(a0:Aa)(hl:a0.Kids.length≤maxLen):∀(k:List Aa) (i n:Nat) (Ae:Int),a0.Kids.drop i=k→k.length < n→La Gh L a0 n Ae (i:Int)=N9 Gh L a0 k i Ae:=by
 intro k
 induction k with
 |nil=>
  intro i n Ae hk hn
  obtain ⟨n,rfl⟩:∃m,n=m+1:=⟨n - 1,by simp at hn;omega⟩
  simp only [La,Nw,N9,L2 (Ci hk),Ao,Au,Al,Am,Ar,Ap,Ak,Av,Aw,Aq,Ax,cond_false]
 |cons x k ih=>
  intro i n Ae hk hn
  obtain ⟨n,rfl⟩:∃m,n=m+1:=⟨n - 1,by simp at hn;omega⟩
  obtain ⟨hlt,hx,hk'⟩:=Cb hk
  have hih:=fun Ae=>ih (i+1) n Ae hk' (by simpa using hn)
  simp only [La,Nw,N9,Kq hlt,nn,Ub hlt,Sr,hx,Ch hlt hl,hih,Ao,Au,Al,Am,Ar,Ap,Ak,Av,Aw,Aq,Ax,cond_true,if_true,decide_true,Aa.eta,Aa.cp_eq,Ab.eta,Ab.cp_eq]
theorem Aix(Gh:Aa→Option Int)(L:Nat)(a0:Aa)(n:Nat)(hl:a0.Kids.length≤maxLen)(hn:a0.Kids.length < n)(Ae:Int):La Gh L a0 n Ae 0=N9 Gh L a0 a0.Kids 0 Ae:=Aja Gh L a0 hl _ 0 n Ae rfl hn
def Nd(B1:Aa→Bool→Option Int)(L:Nat)(a1:Bool)(a0:Aa):List Aa→Nat→Int→Option (Nat×(Int×Int))
 | [],i,Ae=>(some (1,(Ae,(i:Int))))
 |x::k,i,Ae=>(Option.bind (B1 x a1) fun r25=>
 (bif (r25 != 0) then (some (0,(r25,(i:Int))))
 else (Nd B1 L a1 a0 k (i+1) Ae)))
theorem Alz(B1:Aa→Bool→Option Int)(L:Nat)(a1:Bool)(a0:Aa)(hl:a0.Kids.length≤maxLen):∀(k:List Aa) (i n:Nat) (Ae:Int),a0.Kids.drop i=k→k.length < n→Kr B1 L a1 a0 n Ae (i:Int)=Nd B1 L a1 a0 k i Ae:=by
 intro k
 induction k with
 |nil=>
  intro i n Ae hk hn
  obtain ⟨n,rfl⟩:∃m,n=m+1:=⟨n - 1,by simp at hn;omega⟩
  simp only [Kr,Pv,Nd,L2 (Ci hk),Ao,Au,Al,Am,Ar,Ap,Ak,Av,Aw,Aq,Ax,cond_false]
 |cons x k ih=>
  intro i n Ae hk hn
  obtain ⟨n,rfl⟩:∃m,n=m+1:=⟨n - 1,by simp at hn;omega⟩
  obtain ⟨hlt,hx,hk'⟩:=Cb hk
  have hih:=fun Ae=>ih (i+1) n Ae hk' (by simpa using hn)
  simp only [Kr,Pv,Nd,Kq hlt,nn,Ub hlt,Sr,hx,Ch hlt hl,hih,Ao,Au,Al,Am,Ar,Ap,Ak,Av,Aw,Aq,Ax,cond_true,if_true,decide_true,Aa.eta,Aa.cp_eq,Ab.eta,Ab.cp_eq]
theorem Als(B1:Aa→Bool→Option Int)(L:Nat)(a1:Bool)(a0:Aa)(n:Nat)(hl:a0.Kids.length≤maxLen)(hn:a0.Kids.length < n)(Ae:Int):Kr B1 L a1 a0 n Ae 0=Nd B1 L a1 a0 a0.Kids 0 Ae:=Alz B1 L a1 a0 hl _ 0 n Ae rfl hn
def N8(L:Nat)(a0:Bo):List Int→Nat→Int→Option (Nat×(Int×Int))
 | [],i,A9=>(some (1,(A9,(i:Int))))
 |x::k,i,A9=>(Option.bind (Cz L x 0 1000000000) fun r1=>
 (Option.bind (bif (!r1) then (some true) else (if (0:Int)≤(i:Int) then (if (i:Int) < ((a0.Weights.length:Nat):Int) then (Option.bind (Cz L (a0.Weights.getD (Int.toNat (i:Int)) default) 1 1000) fun r3=>(some (!r3))) else none) else none)) fun b2=>
 (bif b2 then (some (0,(2,(i:Int))))
 else (N8 L a0 k (i+1) A9))))
theorem Ai9(L:Nat)(a0:Bo)(hl:a0.Values.length≤maxLen):∀(k:List Int) (i n:Nat) (A9:Int),a0.Values.drop i=k→k.length < n→K8 L a0 n A9 (i:Int)=N8 L a0 k i A9:=by
 intro k
 induction k with
 |nil=>
  intro i n A9 hk hn
  obtain ⟨n,rfl⟩:∃m,n=m+1:=⟨n - 1,by simp at hn;omega⟩
  simp only [K8,Nv,N8,L2 (Ci hk),Ao,Au,Al,Am,Ar,Ap,Ak,Av,Aw,Aq,Ax,cond_false]
 |cons x k ih=>
  intro i n A9 hk hn
  obtain ⟨n,rfl⟩:∃m,n=m+1:=⟨n - 1,by simp at hn;omega⟩
  obtain ⟨hlt,hx,hk'⟩:=Cb hk
  have hih:=fun A9=>ih (i+1) n A9 hk' (by simpa using hn)
  simp only [K8,Nv,N8,Kq hlt,nn,Ub hlt,Sr,hx,Ch hlt hl,hih,Ao,Au,Al,Am,Ar,Ap,Ak,Av,Aw,Aq,Ax,cond_true,if_true,decide_true,Aa.eta,Aa.cp_eq,Ab.eta,Ab.cp_eq]
theorem Aiw(L:Nat)(a0:Bo)(n:Nat)(hl:a0.Values.length≤maxLen)(hn:a0.Values.length < n)(A9:Int):K8 L a0 n A9 0=N8 L a0 a0.Values 0 A9:=Ai9 L a0 hl _ 0 n A9 rfl hn
def Ig(Er:(List Ab)→Option Int)(L:Nat)(a0:(List Ab)):List Ab→Nat→Int→Option (Nat×(Int×Int))
 | [],i,Ae=>(some (1,(Ae,(i:Int))))
 |x::k,i,Ae=>(Option.bind (S8 L x) fun r1=>
 (bif (r1 == 0) then (Option.bind (Er (x.Body)) fun r2=>
 (bif (r2 == 0) then (Option.bind (Er (x.Else)) fun r3=>
 (bif (r3 != 0) then (some (0,(r3,(i:Int))))
 else (Ig Er L a0 k (i+1) Ae)))
 else (bif (r2 != 0) then (some (0,(r2,(i:Int))))
 else (Ig Er L a0 k (i+1) Ae))))
 else (bif (r1 == 0) then (Option.bind (Er (x.Else)) fun r4=>
 (bif (r4 != 0) then (some (0,(r4,(i:Int))))
 else (Ig Er L a0 k (i+1) Ae)))
 else (bif (r1 != 0) then (some (0,(r1,(i:Int))))
 else (Ig Er L a0 k (i+1) Ae)))))
theorem Al0(Er:(List Ab)→Option Int)(L:Nat)(a0:(List Ab))(hl:a0.length≤maxLen):∀(k:List Ab) (i n:Nat) (Ae:Int),a0.drop i=k→k.length < n→M8 Er L a0 n Ae (i:Int)=Ig Er L a0 k i Ae:=by
 intro k
 induction k with
 |nil=>
  intro i n Ae hk hn
  obtain ⟨n,rfl⟩:∃m,n=m+1:=⟨n - 1,by simp at hn;omega⟩
  simp only [M8,Pw,Ig,L2 (Ci hk),Ao,Au,Al,Am,Ar,Ap,Ak,Av,Aw,Aq,Ax,cond_false]
 |cons x k ih=>
  intro i n Ae hk hn
  obtain ⟨n,rfl⟩:∃m,n=m+1:=⟨n - 1,by simp at hn;omega⟩
  obtain ⟨hlt,hx,hk'⟩:=Cb hk
  have hih:=fun Ae=>ih (i+1) n Ae hk' (by simpa using hn)
  simp only [M8,Pw,Ig,Kq hlt,nn,Ub hlt,Sr,hx,Ch hlt hl,hih,Ao,Au,Al,Am,Ar,Ap,Ak,Av,Aw,Aq,Ax,cond_true,if_true,decide_true,Aa.eta,Aa.cp_eq,Ab.eta,Ab.cp_eq]
theorem Alt(Er:(List Ab)→Option Int)(L:Nat)(a0:(List Ab))(n:Nat)(hl:a0.length≤maxLen)(hn:a0.length < n)(Ae:Int):M8 Er L a0 n Ae 0=Ig Er L a0 a0 0 Ae:=Al0 Er L a0 hl _ 0 n Ae rfl hn
def Lq(L:Nat)(a0:Ac):List Bp→Nat→List ByteArray→Option (Nat×(Int×List ByteArray))
 | [],i,Jo=>(some (0,((i:Int),Jo)))
 |x::k,i,Jo=>(if ((0:Int)≤0) then (if (0 < ((10:Nat):Int)) then (if ((Jo.length+ [x.Name].length)*16≤140737488355328) then (if (Jo.length+ [x.Name].length≤maxLen) then (if ((0:Int)≤0) then (if (0 < ((10:Nat):Int)) then (Lq L a0 k (i+1) (Jo++ [x.Name])) else none) else none) else none) else none) else none) else none)
theorem Aje(L:Nat)(a0:Ac)(hl:a0.Vars.length≤maxLen):∀(k:List Bp) (i n:Nat) (Jo:List ByteArray),a0.Vars.drop i=k→k.length < n→Lf L a0 n (i:Int) Jo=Lq L a0 k i Jo:=by
 intro k
 induction k with
 |nil=>
  intro i n Jo hk hn
  obtain ⟨n,rfl⟩:∃m,n=m+1:=⟨n - 1,by simp at hn;omega⟩
  simp only [Lf,N0,Lq,L2 (Ci hk),Ao,Au,Al,Am,Ar,Ap,Ak,Av,Aw,Aq,Ax,cond_false]
 |cons x k ih=>
  intro i n Jo hk hn
  obtain ⟨n,rfl⟩:∃m,n=m+1:=⟨n - 1,by simp at hn;omega⟩
  obtain ⟨hlt,hx,hk'⟩:=Cb hk
  have hih:=fun Jo=>ih (i+1) n Jo hk' (by simpa using hn)
  simp only [Lf,N0,Lq,Kq hlt,nn,Ub hlt,Sr,hx,Ch hlt hl,hih,Ao,Au,Al,Am,Ar,Ap,Ak,Av,Aw,Aq,Ax,cond_true,if_true,decide_true,Aa.eta,Aa.cp_eq,Ab.eta,Ab.cp_eq]
theorem Ai1(L:Nat)(a0:Ac)(n:Nat)(hl:a0.Vars.length≤maxLen)(hn:a0.Vars.length < n)(Jo:List ByteArray):Lf L a0 n 0 Jo=Lq L a0 a0.Vars 0 Jo:=Aje L a0 hl _ 0 n Jo rfl hn
def Lr(L:Nat)(a0:Ac)(o1:Nat×(Int×List ByteArray)):List Bf→Nat→List ByteArray→Option (Nat×(Int×List ByteArray))
 | [],i,Jp=>(some (0,((i:Int),Jp)))
 |x::k,i,Jp=>(if ((0:Int)≤1) then (if (1 < ((10:Nat):Int)) then (if ((Jp.length+ [x.Name].length)*16≤140737488355328) then (if (Jp.length+ [x.Name].length≤maxLen) then (if ((0:Int)≤1) then (if (1 < ((10:Nat):Int)) then (Lr L a0 o1 k (i+1) (Jp++ [x.Name])) else none) else none) else none) else none) else none) else none)
theorem Ajf(L:Nat)(a0:Ac)(o1:Nat×(Int×List ByteArray))(hl:a0.Resources.length≤maxLen):∀(k:List Bf) (i n:Nat) (Jp:List ByteArray),a0.Resources.drop i=k→k.length < n→Lg L a0 o1 n (i:Int) Jp=Lr L a0 o1 k i Jp:=by
 intro k
 induction k with
 |nil=>
  intro i n Jp hk hn
  obtain ⟨n,rfl⟩:∃m,n=m+1:=⟨n - 1,by simp at hn;omega⟩
  simp only [Lg,N1,Lr,L2 (Ci hk),Ao,Au,Al,Am,Ar,Ap,Ak,Av,Aw,Aq,Ax,cond_false]
 |cons x k ih=>
  intro i n Jp hk hn
  obtain ⟨n,rfl⟩:∃m,n=m+1:=⟨n - 1,by simp at hn;omega⟩
  obtain ⟨hlt,hx,hk'⟩:=Cb hk
  have hih:=fun Jp=>ih (i+1) n Jp hk' (by simpa using hn)
  simp only [Lg,N1,Lr,Kq hlt,nn,Ub hlt,Sr,hx,Ch hlt hl,hih,Ao,Au,Al,Am,Ar,Ap,Ak,Av,Aw,Aq,Ax,cond_true,if_true,decide_true,Aa.eta,Aa.cp_eq,Ab.eta,Ab.cp_eq]
theorem Ai2(L:Nat)(a0:Ac)(o1:Nat×(Int×List ByteArray))(n:Nat)(hl:a0.Resources.length≤maxLen)(hn:a0.Resources.length < n)(Jp:List ByteArray):Lg L a0 o1 n 0 Jp=Lr L a0 o1 a0.Resources 0 Jp:=Ajf L a0 o1 hl _ 0 n Jp rfl hn
def Ls(L:Nat)(a0:Ac)(o1:Nat×(Int×List ByteArray))(o2:Nat×(Int×List ByteArray)):List Bx→Nat→List ByteArray→Option (Nat×(Int×List ByteArray))
 | [],i,Jq=>(some (0,((i:Int),Jq)))
 |x::k,i,Jq=>(if ((0:Int)≤2) then (if (2 < ((10:Nat):Int)) then (if ((Jq.length+ [x.Name].length)*16≤140737488355328) then (if (Jq.length+ [x.Name].length≤maxLen) then (if ((0:Int)≤2) then (if (2 < ((10:Nat):Int)) then (Ls L a0 o1 o2 k (i+1) (Jq++ [x.Name])) else none) else none) else none) else none) else none) else none)
theorem Ajg(L:Nat)(a0:Ac)(o1:Nat×(Int×List ByteArray))(o2:Nat×(Int×List ByteArray))(hl:a0.Stores.length≤maxLen):∀(k:List Bx) (i n:Nat) (Jq:List ByteArray),a0.Stores.drop i=k→k.length < n→Lh L a0 o1 o2 n (i:Int) Jq=Ls L a0 o1 o2 k i Jq:=by
 intro k
 induction k with
 |nil=>
  intro i n Jq hk hn
  obtain ⟨n,rfl⟩:∃m,n=m+1:=⟨n - 1,by simp at hn;omega⟩
  simp only [Lh,N2,Ls,L2 (Ci hk),Ao,Au,Al,Am,Ar,Ap,Ak,Av,Aw,Aq,Ax,cond_false]
 |cons x k ih=>
  intro i n Jq hk hn
  obtain ⟨n,rfl⟩:∃m,n=m+1:=⟨n - 1,by simp at hn;omega⟩
  obtain ⟨hlt,hx,hk'⟩:=Cb hk
  have hih:=fun Jq=>ih (i+1) n Jq hk' (by simpa using hn)
  simp only [Lh,N2,Ls,Kq hlt,nn,Ub hlt,Sr,hx,Ch hlt hl,hih,Ao,Au,Al,Am,Ar,Ap,Ak,Av,Aw,Aq,Ax,cond_true,if_true,decide_true,Aa.eta,Aa.cp_eq,Ab.eta,Ab.cp_eq]
theorem Ai3(L:Nat)(a0:Ac)(o1:Nat×(Int×List ByteArray))(o2:Nat×(Int×List ByteArray))(n:Nat)(hl:a0.Stores.length≤maxLen)(hn:a0.Stores.length < n)(Jq:List ByteArray):Lh L a0 o1 o2 n 0 Jq=Ls L a0 o1 o2 a0.Stores 0 Jq:=Ajg L a0 o1 o2 hl _ 0 n Jq rfl hn
def Lt(L:Nat)(a0:Ac)(o1:Nat×(Int×List ByteArray))(o2:Nat×(Int×List ByteArray))(o3:Nat×(Int×List ByteArray)):List B3→Nat→List ByteArray→Option (Nat×(Int×List ByteArray))
 | [],i,Jr=>(some (0,((i:Int),Jr)))
 |x::k,i,Jr=>(if ((0:Int)≤3) then (if (3 < ((10:Nat):Int)) then (if ((Jr.length+ [x.Name].length)*16≤140737488355328) then (if (Jr.length+ [x.Name].length≤maxLen) then (if ((0:Int)≤3) then (if (3 < ((10:Nat):Int)) then (Lt L a0 o1 o2 o3 k (i+1) (Jr++ [x.Name])) else none) else none) else none) else none) else none) else none)
theorem Ajh(L:Nat)(a0:Ac)(o1:Nat×(Int×List ByteArray))(o2:Nat×(Int×List ByteArray))(o3:Nat×(Int×List ByteArray))(hl:a0.Belts.length≤maxLen):∀(k:List B3) (i n:Nat) (Jr:List ByteArray),a0.Belts.drop i=k→k.length < n→Li L a0 o1 o2 o3 n (i:Int) Jr=Lt L a0 o1 o2 o3 k i Jr:=by
 intro k
 induction k with
 |nil=>
  intro i n Jr hk hn
  obtain ⟨n,rfl⟩:∃m,n=m+1:=⟨n - 1,by simp at hn;omega⟩
  simp only [Li,N3,Lt,L2 (Ci hk),Ao,Au,Al,Am,Ar,Ap,Ak,Av,Aw,Aq,Ax,cond_false]
 |cons x k ih=>
  intro i n Jr hk hn
  obtain ⟨n,rfl⟩:∃m,n=m+1:=⟨n - 1,by simp at hn;omega⟩
  obtain ⟨hlt,hx,hk'⟩:=Cb hk
  have hih:=fun Jr=>ih (i+1) n Jr hk' (by simpa using hn)
  simp only [Li,N3,Lt,Kq hlt,nn,Ub hlt,Sr,hx,Ch hlt hl,hih,Ao,Au,Al,Am,Ar,Ap,Ak,Av,Aw,Aq,Ax,cond_true,if_true,decide_true,Aa.eta,Aa.cp_eq,Ab.eta,Ab.cp_eq]
theorem Ai4(L:Nat)(a0:Ac)(o1:Nat×(Int×List ByteArray))(o2:Nat×(Int×List ByteArray))(o3:Nat×(Int×List ByteArray))(n:Nat)(hl:a0.Belts.length≤maxLen)(hn:a0.Belts.length < n)(Jr:List ByteArray):Li L a0 o1 o2 o3 n 0 Jr=Lt L a0 o1 o2 o3 a0.Belts 0 Jr:=Ajh L a0 o1 o2 o3 hl _ 0 n Jr rfl hn
def Lu(L:Nat)(a0:Ac)(o1:Nat×(Int×List ByteArray))(o2:Nat×(Int×List ByteArray))(o3:Nat×(Int×List ByteArray))(o4:Nat×(Int×List ByteArray)):List Bg→Nat→List ByteArray→Option (Nat×(Int×List ByteArray))
 | [],i,Js=>(some (0,((i:Int),Js)))
 |x::k,i,Js=>(if ((0:Int)≤9) then (if (9 < ((10:Nat):Int)) then (if ((Js.length+ [x.Name].length)*16≤140737488355328) then (if (Js.length+ [x.Name].length≤maxLen) then (if ((0:Int)≤9) then (if (9 < ((10:Nat):Int)) then (Lu L a0 o1 o2 o3 o4 k (i+1) (Js++ [x.Name])) else none) else none) else none) else none) else none) else none)
theorem Aji(L:Nat)(a0:Ac)(o1:Nat×(Int×List ByteArray))(o2:Nat×(Int×List ByteArray))(o3:Nat×(Int×List ByteArray))(o4:Nat×(Int×List ByteArray))(hl:a0.Routines.length≤maxLen):∀(k:List Bg) (i n:Nat) (Js:List ByteArray),a0.Routines.drop i=k→k.length < n→Lj L a0 o1 o2 o3 o4 n (i:Int) Js=Lu L a0 o1 o2 o3 o4 k i Js:=by
 intro k
 induction k with
 |nil=>
  intro i n Js hk hn
  obtain ⟨n,rfl⟩:∃m,n=m+1:=⟨n - 1,by simp at hn;omega⟩
  simp only [Lj,N4,Lu,L2 (Ci hk),Ao,Au,Al,Am,Ar,Ap,Ak,Av,Aw,Aq,Ax,cond_false]
 |cons x k ih=>
  intro i n Js hk hn
  obtain ⟨n,rfl⟩:∃m,n=m+1:=⟨n - 1,by simp at hn;omega⟩
  obtain ⟨hlt,hx,hk'⟩:=Cb hk
  have hih:=fun Js=>ih (i+1) n Js hk' (by simpa using hn)
  simp only [Lj,N4,Lu,Kq hlt,nn,Ub hlt,Sr,hx,Ch hlt hl,hih,Ao,Au,Al,Am,Ar,Ap,Ak,Av,Aw,Aq,Ax,cond_true,if_true,decide_true,Aa.eta,Aa.cp_eq,Ab.eta,Ab.cp_eq]
theorem Ai5(L:Nat)(a0:Ac)(o1:Nat×(Int×List ByteArray))(o2:Nat×(Int×List ByteArray))(o3:Nat×(Int×List ByteArray))(o4:Nat×(Int×List ByteArray))(n:Nat)(hl:a0.Routines.length≤maxLen)(hn:a0.Routines.length < n)(Js:List ByteArray):Lj L a0 o1 o2 o3 o4 n 0 Js=Lu L a0 o1 o2 o3 o4 a0.Routines 0 Js:=Aji L a0 o1 o2 o3 o4 hl _ 0 n Js rfl hn
def R9(L:Nat)(a1:ByteArray)(r1:(List (List ByteArray)))(a0:Ac):List ((List ByteArray))→Nat→ByteArray→Option (Nat×(ByteArray×Int))
 | [],i,Ae=>(some (1,(Ae,(i:Int))))
 |x::k,i,Ae=>(Option.bind (G9 L x a1) fun r2=>
 (bif (decide (r2≥0)) then (if ((i:Int) < (([(⟨#[118,97,114]⟩:ByteArray),(⟨#[114,101,115,111,117,114,99,101]⟩:ByteArray),(⟨#[115,116,111,114,101]⟩:ByteArray),(⟨#[98,101,108,116]⟩:ByteArray),(⟨#[113,117,101,117,101]⟩:ByteArray),(⟨#[115,116,114,101,97,109]⟩:ByteArray),(⟨#[116,97,108,108,121]⟩:ByteArray),(⟨#[108,101,118,101,108]⟩:ByteArray),(⟨#[99,111,117,110,116]⟩:ByteArray),(⟨#[114,111,117,116,105,110,101]⟩:ByteArray)].length:Nat):Int)) then (some (0,(([(⟨#[118,97,114]⟩:ByteArray),(⟨#[114,101,115,111,117,114,99,101]⟩:ByteArray),(⟨#[115,116,111,114,101]⟩:ByteArray),(⟨#[98,101,108,116]⟩:ByteArray),(⟨#[113,117,101,117,101]⟩:ByteArray),(⟨#[115,116,114,101,97,109]⟩:ByteArray),(⟨#[116,97,108,108,121]⟩:ByteArray),(⟨#[108,101,118,101,108]⟩:ByteArray),(⟨#[99,111,117,110,116]⟩:ByteArray),(⟨#[114,111,117,116,105,110,101]⟩:ByteArray)].getD (Int.toNat (i:Int)) default),(i:Int)))) else none)
 else (R9 L a1 r1 a0 k (i+1) Ae)))
theorem Al1(L:Nat)(a1:ByteArray)(r1:(List (List ByteArray)))(a0:Ac)(hl:r1.length≤maxLen):∀(k:List ((List ByteArray))) (i n:Nat) (Ae:ByteArray),r1.drop i=k→k.length < n→M9 L a1 r1 a0 n Ae (i:Int)=R9 L a1 r1 a0 k i Ae:=by
 intro k
 induction k with
 |nil=>
  intro i n Ae hk hn
  obtain ⟨n,rfl⟩:∃m,n=m+1:=⟨n - 1,by simp at hn;omega⟩
  simp only [M9,Px,R9,L2 (Ci hk),Ao,Au,Al,Am,Ar,Ap,Ak,Av,Aw,Aq,Ax,cond_false]
 |cons x k ih=>
  intro i n Ae hk hn
  obtain ⟨n,rfl⟩:∃m,n=m+1:=⟨n - 1,by simp at hn;omega⟩
  obtain ⟨hlt,hx,hk'⟩:=Cb hk
  have hih:=fun Ae=>ih (i+1) n Ae hk' (by simpa using hn)
  simp only [M9,Px,R9,Kq hlt,nn,Ub hlt,Sr,hx,Ch hlt hl,hih,Ao,Au,Al,Am,Ar,Ap,Ak,Av,Aw,Aq,Ax,cond_true,if_true,decide_true,Aa.eta,Aa.cp_eq,Ab.eta,Ab.cp_eq]
theorem Alu(L:Nat)(a1:ByteArray)(r1:(List (List ByteArray)))(a0:Ac)(n:Nat)(hl:r1.length≤maxLen)(hn:r1.length < n)(Ae:ByteArray):M9 L a1 r1 a0 n Ae 0=R9 L a1 r1 a0 r1 0 Ae:=Al1 L a1 r1 a0 hl _ 0 n Ae rfl hn
def Mi(L:Nat)(a0:(List Bp))(a1:ByteArray):List Bp→Nat→Int→Bool→Option (Nat×(Int×Bool×Int))
 | [],i,Ah,Aj=>(some (1,(Ah,Aj,(i:Int))))
 |x::k,i,Ah,Aj=>(bif ((x.Name).toList == a1.toList) then (some (0,((x.Type_),true,(i:Int))))
 else (Mi L a0 a1 k (i+1) Ah Aj))
theorem Agz(L:Nat)(a0:(List Bp))(a1:ByteArray)(hl:a0.length≤maxLen):∀(k:List Bp) (i n:Nat) (Ah:Int) (Aj:Bool),a0.drop i=k→k.length < n→I7 L a0 a1 n Ah Aj (i:Int)=Mi L a0 a1 k i Ah Aj:=by
 intro k
 induction k with
 |nil=>
  intro i n Ah Aj hk hn
  obtain ⟨n,rfl⟩:∃m,n=m+1:=⟨n - 1,by simp at hn;omega⟩
  simp only [I7,L9,Mi,L2 (Ci hk),Ao,Au,Al,Am,Ar,Ap,Ak,Av,Aw,Aq,Ax,cond_false]
 |cons x k ih=>
  intro i n Ah Aj hk hn
  obtain ⟨n,rfl⟩:∃m,n=m+1:=⟨n - 1,by simp at hn;omega⟩
  obtain ⟨hlt,hx,hk'⟩:=Cb hk
  have hih:=fun Ah Aj=>ih (i+1) n Ah Aj hk' (by simpa using hn)
  simp only [I7,L9,Mi,Kq hlt,nn,Ub hlt,Sr,hx,Ch hlt hl,hih,Ao,Au,Al,Am,Ar,Ap,Ak,Av,Aw,Aq,Ax,cond_true,if_true,decide_true,Aa.eta,Aa.cp_eq,Ab.eta,Ab.cp_eq]
theorem Agq(L:Nat)(a0:(List Bp))(a1:ByteArray)(n:Nat)(hl:a0.length≤maxLen)(hn:a0.length < n)(Ah:Int)(Aj:Bool):I7 L a0 a1 n Ah Aj 0=Mi L a0 a1 a0 0 Ah Aj:=Agz L a0 a1 hl _ 0 n Ah Aj rfl hn
end Go.Proofs.YtcbandfdmbkokaaGreat.Ev
