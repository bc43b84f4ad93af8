/-  Chapters 11 and 14, plainly: kinds in the reference; types of expressions. -/
import Derived.Test.YtcbandfdmbkokaaGreatQ5
import Derived.Test.YtcbandfdmbkokaaGreatPe
namespace Go.Proofs.YtcbandfdmbkokaaGreat.Ev
open Go
set_option linter.unusedVariables false
set_option linter.unusedSimpArgs false
set_option linter.unnecessarySimpa false
theorem A3h(l:List ByteArray)(s:ByteArray):decide (Av7 l s≥0)=l.any (fun x=>decide (x=s)):=Akk _ _
theorem Abj(L:Nat)(s:Ac)(n:ByteArray)(h:Vr s 1099511627776)(hL:maxLen < L):Ij L s n=some (Oj s n):=by
 have hM:=Cf
 have hh:=h
 obtain ⟨h0,h1,h2,h3,h4,h5,h6,h7,h8,h9⟩:=hh
 have hn:=Afh L s h hL
 have hf:∀l:List ByteArray,l.length≤1099511627776→G9 L l n=some (Av7 l n):=fun l hl=>Abi L l n (by omega) (by omega)
 have e:∀ {α :Type} (l:List α) (f: α→ByteArray),l.length≤1099511627776→G9 L (l.map f) n=some (Av7 (l.map f) n):=fun l f hl=>hf _ (by rw [List.length_map];exact hl)
 simp only [X8,Ij,Ao,Au,Al,Am,Ar,Ap,Ak,Av,Aw,Aq,Ax,hn,Option.bind_some,Alu L n (Adu s) s L (by simp only [Adu,List.length_cons,List.length_nil];omega) (by simp only [Adu,List.length_cons,List.length_nil];omega)]
 simp only [Adu,R9,e _ _ h0,e _ _ h1,e _ _ h2,e _ _ h3,hf _ h4,hf _ h5,hf _ h6,hf _ h7,hf _ h8,e _ _ h9,Option.bind_some,A3h,List.any_map,List.length_cons,List.length_nil,Int.toNat_natCast]
 repeat rw [ifp (by omega)]
 simp only [Oj,Atw,D7,Option.bind_some,Function.comp_def]
 have e2:∀l:List ByteArray,(l.any fun x=>decide (x=n))=l.any fun x=>decide (n=x):=fun l=>by simp only [eq_comm]
 simp only [e2]
 cases s.Vars.any (fun x=>decide (x.Name=n)) with|true=>rfl|false=> ?_
 cases s.Resources.any (fun x=>decide (x.Name=n)) with|true=>rfl|false=> ?_
 cases s.Stores.any (fun x=>decide (x.Name=n)) with|true=>rfl|false=> ?_
 cases s.Belts.any (fun x=>decide (x.Name=n)) with|true=>rfl|false=> ?_
 cases s.Queues.any (fun x=>decide (n=x)) with|true=>rfl|false=> ?_
 cases s.Streams.any (fun x=>decide (n=x)) with|true=>rfl|false=> ?_
 cases s.Tallies.any (fun x=>decide (n=x)) with|true=>rfl|false=> ?_
 cases s.Levels.any (fun x=>decide (n=x)) with|true=>rfl|false=> ?_
 cases s.Counts.any (fun x=>decide (n=x)) with|true=>rfl|false=> ?_
 cases s.Routines.any (fun x=>decide (x.Name=n))<;>rfl
def Acl(l:List Be)(s:ByteArray):Option Int:=(l.reverse.find? fun f=>decide (f.Name=s)).map (·.Type_)
def Apc(l:List Bp)(s:ByteArray):Option Int:=(l.find? fun x=>decide (x.Name=s)).map (·.Type_)
def o2:Option Int→Int×Bool
 |some t=>(t,true)
 |none=>(0,false)
def All(v:Ai)(s:ByteArray):Option Int:=match Acl v.Locals s with
 |some t=>some t
 |none=>match Apc v.Site.Vars s with
  |some t=>some t
  |none=>Apc v.Params s
theorem Aiv(L:Nat)(l:List Be)(s:ByteArray)(hl:l.length≤maxLen):∀(j n:Nat),j≤l.length→j < n→
  ∃i,Hf L l s n 0 false ((j:Int) - 1)=some (match (l.take j).reverse.find? (fun f=>decide (f.Name=s)) with|some f=>(0,(f.Type_,true,i))|none=>(1,(0,false,i))):=by
 intro j
 induction j with
 |zero=>
  intro n _ hn
  obtain ⟨n,rfl⟩:∃k,n=k+1:=⟨n - 1,by omega⟩
  exact ⟨_,by simp only [Hf,Hd,Al,Ak];rfl⟩
 |succ j ih=>
  intro n hj hn
  obtain ⟨n,rfl⟩:∃k,n=k+1:=⟨n - 1,by omega⟩
  have hlt:j < l.length:=by omega
  have e0:((j+1:Nat):Int) - 1=(j:Int):=by omega
  have e1:decide ((j:Int)≥0)=true:=decide_eq_true (by omega)
  have et:(l.take (j+1)).reverse=l.getD j default::(l.take j).reverse:=by
   rw [List.take_succ_eq_append_getElem hlt,List.reverse_append,Ro l j hlt];rfl
  obtain ⟨i,hi⟩:=ih n (by omega) (by omega)
  rw [et]
  rw [List.find?_cons]
  cases hb:decide ((l.getD j default).Name=s) with
  |true=>exact ⟨(j:Int),by simp only [Hf,Hd,Al,Am,Ak,G8,e0,e1,nn,Ub hlt,Sr,hb,cond_true,if_true,decide_true]⟩
  |false=>exact ⟨i,by simp only [Hf,Hd,Al,Am,Ak,G8,e0,e1,nn,Ub hlt,Sr,hb,cond_true,cond_false,if_true,decide_true,Af7 (show j≤maxLen by omega),hi]⟩
theorem Xc(L:Nat)(l:List Be)(s:ByteArray)(hl:l.length≤maxLen)(hL:l.length < L):Db L l s=some (o2 (Acl l s)):=by
 obtain ⟨i,hi⟩:=Aiv L l s hl l.length L (Nat.le_refl _) hL
 rw [List.take_length] at hi
 simp only [Sz,Db,Ao,Ap,Ak,Af7 hl,hi,Acl]
 cases l.reverse.find? (fun f=>decide (f.Name=s))<;>rfl
theorem As9(L:Nat)(l:List Be)(s:ByteArray)(hl:l.length≤maxLen):∀(j n:Nat),j≤l.length→j < n→
  ∃i,Lk L l s n 0 false ((j:Int) - 1)=some (match (l.take j).reverse.find? (fun f=>decide (f.Name=s)) with|some f=>(0,(f.Type_,true,i))|none=>(1,(0,false,i))):=by
 intro j
 induction j with
 |zero=>
  intro n _ hn
  obtain ⟨n,rfl⟩:∃k,n=k+1:=⟨n - 1,by omega⟩
  exact ⟨_,by simp only [Lk,K7,Al,Ak];rfl⟩
 |succ j ih=>
  intro n hj hn
  obtain ⟨n,rfl⟩:∃k,n=k+1:=⟨n - 1,by omega⟩
  have hlt:j < l.length:=by omega
  have e0:((j+1:Nat):Int) - 1=(j:Int):=by omega
  have e1:decide ((j:Int)≥0)=true:=decide_eq_true (by omega)
  have et:(l.take (j+1)).reverse=l.getD j default::(l.take j).reverse:=by
   rw [List.take_succ_eq_append_getElem hlt,List.reverse_append,Ro l j hlt];rfl
  obtain ⟨i,hi⟩:=ih n (by omega) (by omega)
  rw [et]
  rw [List.find?_cons]
  cases hb:decide ((l.getD j default).Name=s) with
  |true=>exact ⟨(j:Int),by simp only [Lk,K7,Al,Am,Ak,G8,e0,e1,nn,Ub hlt,Sr,hb,cond_true,if_true,decide_true]⟩
  |false=>exact ⟨i,by simp only [Lk,K7,Al,Am,Ak,G8,e0,e1,nn,Ub hlt,Sr,hb,cond_true,cond_false,if_true,decide_true,Af7 (show j≤maxLen by omega),hi]⟩
theorem v7(L:Nat)(l:List Be)(s:ByteArray)(hl:l.length≤maxLen)(hL:l.length < L):I5 L l s=some (o2 (Acl l s)):=by
 obtain ⟨i,hi⟩:=As9 L l s hl l.length L (Nat.le_refl _) hL
 rw [List.take_length] at hi
 simp only [Wl,I5,Ao,Ap,Ak,Af7 hl,hi,Acl]
 cases l.reverse.find? (fun f=>decide (f.Name=s))<;>rfl
theorem Ajt(L:Nat)(s:ByteArray)(v0:Ai):∀(k:List Bp) (i:Nat) (v:Int) (w:Bool),∃j,Ke L s v0 k i v w=some (match k.find? (fun x=>decide (x.Name=s)) with|some x=>(0,(x.Type_,true,j))|none=>(1,(v,w,j))):=by
 intro k
 induction k with
 |nil=>intro i v w;exact ⟨i,rfl⟩
 |cons x k ih=>
  intro i v w
  obtain ⟨j,hj⟩:=ih (i+1) v w
  rw [Ke,List.find?_cons,G8]
  cases decide (x.Name=s) with
  |true=>exact ⟨i,rfl⟩
  |false=>exact ⟨j,hj⟩
theorem Aju(L:Nat)(s:ByteArray)(v0:Ai):∀(k:List Bp) (i:Nat) (v:Int) (w:Bool),∃j,Kf L s v0 k i v w=some (match k.find? (fun x=>decide (x.Name=s)) with|some x=>(0,(x.Type_,true,j))|none=>(1,(v,w,j))):=by
 intro k
 induction k with
 |nil=>intro i v w;exact ⟨i,rfl⟩
 |cons x k ih=>
  intro i v w
  obtain ⟨j,hj⟩:=ih (i+1) v w
  rw [Kf,List.find?_cons,G8]
  cases decide (x.Name=s) with
  |true=>exact ⟨i,rfl⟩
  |false=>exact ⟨j,hj⟩
theorem Aml(L:Nat)(l:List Bp)(s:ByteArray):∀(k:List Bp) (i:Nat) (v:Int) (w:Bool),∃j,Mi L l s k i v w=some (match k.find? (fun x=>decide (x.Name=s)) with|some x=>(0,(x.Type_,true,j))|none=>(1,(v,w,j))):=by
 intro k
 induction k with
 |nil=>intro i v w;exact ⟨i,rfl⟩
 |cons x k ih=>
  intro i v w
  obtain ⟨j,hj⟩:=ih (i+1) v w
  rw [Mi,List.find?_cons,G8]
  cases decide (x.Name=s) with
  |true=>exact ⟨i,rfl⟩
  |false=>exact ⟨j,hj⟩
theorem Amg(L:Nat)(v:Ai)(s:ByteArray)(h:D8 v)(hL:maxLen < L):Kp L v s=some (o2 (All v s)):=by
 obtain ⟨⟨h1,_⟩,⟨h2,_⟩,h3⟩:=h
 have h4:=h3.len.1
 obtain ⟨j1,e1⟩:=Ajt L s v v.Site.Vars 0 0 false
 obtain ⟨j2,e2⟩:=Aju L s v v.Params 0 0 false
 simp only [Tp,Kp,Ao,Au,Al,Am,Ar,Ap,Ak,Av,Aw,Aq,Ax,Xc L _ s h2 (by omega),Ae0 L s v L h4 (by omega),Ae1 L s v L h1 (by omega),e1,Option.bind_some,All,Apc]
 cases Acl v.Locals s with
 |some t=>rfl
 |none=>
  simp only [o2,cond_false]
  cases v.Site.Vars.find? (fun x=>decide (x.Name=s)) with
  |some t=>rfl
  |none=>
   simp only [f6,e2,Option.bind_some,Option.map_none]
   cases v.Params.find? (fun x=>decide (x.Name=s))<;>rfl
theorem Z8(L:Nat)(l:List Bp)(s:ByteArray)(hl:l.length≤maxLen)(hL:l.length < L):Hm L l s=some (o2 (Apc l s)):=by
 obtain ⟨j1,e1⟩:=Aml L l s l 0 0 false
 simp only [Ur,Hm,Ao,Au,Al,Am,Ar,Ap,Ak,Av,Aw,Aq,Ax,Agq L l s L hl hL,e1,Option.bind_some,Apc]
 cases l.find? (fun x=>decide (x.Name=s))<;>rfl
theorem Aw2(L:Nat)(v:Ai)(s:ByteArray)(h:D8 v)(hL:maxLen < L):Sx L v s=some (o2 (All v s)):=by
 obtain ⟨⟨h1,_⟩,⟨h2,_⟩,h3⟩:=h
 have h4:=h3.len.1
 simp only [n7,Sx,Ao,Au,Al,Am,Ar,Ap,Ak,Av,Aw,Aq,Ax,v7 L _ s h2 (by omega),Z8 L _ s h4 (by omega),Z8 L _ s h1 (by omega),Option.bind_some,All]
 cases Acl v.Locals s with
 |some t=>rfl
 |none=>
  cases Apc v.Site.Vars s with
  |some t=>rfl
  |none=>cases Apc v.Params s<;>rfl
def Afb(t:Int):Bool:=t == 1 || t == 3
def unT(op a:Int):Int:=if (op=5∧Afb a=true)∨(op=6∧a=2) then a else if op=7∧a=1 then 3 else if op=8∧a=3 then 1 else 0
def Axy(op a b:Int):Int:=
 if op=9∨op=10∨op=13∨op=20∨op=21 then (if a=b∧Afb a=true then a else 0)
 else if op=11 then (if a=1∧b=1 then 1 else if Afb a=true∧Afb b=true∧a≠b then 3 else 0)
 else if op=12 then (if (a=1∧b=1)∨(a=3∧b=3) then 1 else if a=3∧b=1 then 3 else 0)
 else if op=14∨op=15 then (if a=b then 2 else 0)
 else if op=16∨op=17 then (if a=b∧Afb a=true then 2 else 0)
 else if op=18∨op=19 then (if a=2∧b=2 then 2 else 0)
 else 0
def A53(op:Int)(k:ByteArray):Bool:=if op=22 then decide (k=Hc) else if op=23 then decide (k=O9) else decide (k=Hc) || decide (k=Qo)
theorem Yv(L:Nat)(t:Int):Cm L t=some (Afb t):=by
 simp only [So,Cm,Ao,Au,Al,Am,Ar,Ap,Ak,Av,Aw,Aq,Ax,O8,Afb]
theorem Xa(L:Nat)(t:Int):C1 L t=some (Afb t):=by
 simp only [Uq,C1,Ao,Au,Al,Am,Ar,Ap,Ak,Av,Aw,Aq,Ax,O8,Afb]
theorem Ajn(L:Nat)(op a:Int):Ir L op a=some (unT op a):=by
 simp only [U2,Ir,Ao,Au,Al,Am,Ar,Ap,Ak,Av,Aw,Aq,Ax,Yv,Option.bind_some,D7,Dz,O8,unT]
 congr 1
 by_cases h5:op=5
 ·subst h5;cases Afb a<;>simp
 by_cases h6:op=6
 ·subst h6;by_cases h:a=2<;>first|(simp [h];done)|(simp [h,beq_false_of_ne h];done)
 by_cases h7:op=7
 ·subst h7;by_cases h:a=1<;>first|(simp [h];done)|(simp [h,beq_false_of_ne h];done)
 by_cases h8:op=8
 ·subst h8;by_cases h:a=3<;>first|(simp [h];done)|(simp [h,beq_false_of_ne h];done)
 have b5:(op == 5)=false:=beq_false_of_ne h5
 have b6:(op == 6)=false:=beq_false_of_ne h6
 have b7:(op == 7)=false:=beq_false_of_ne h7
 have b8:(op == 8)=false:=beq_false_of_ne h8
 simp [h5,h6,h7,h8,b5,b6,b7,b8]
theorem Atr(L:Nat)(op a:Int):O0 L op a=some (unT op a):=by
 simp only [Zj,O0,Ao,Au,Al,Am,Ar,Ap,Ak,Av,Aw,Aq,Ax,Xa,Option.bind_some,D7,Dz,O8,unT]
 congr 1
 by_cases h5:op=5
 ·subst h5;cases Afb a<;>simp
 by_cases h6:op=6
 ·subst h6;by_cases h:a=2<;>first|(simp [h];done)|(simp [h,beq_false_of_ne h];done)
 by_cases h7:op=7
 ·subst h7;by_cases h:a=1<;>first|(simp [h];done)|(simp [h,beq_false_of_ne h];done)
 by_cases h8:op=8
 ·subst h8;by_cases h:a=3<;>first|(simp [h];done)|(simp [h,beq_false_of_ne h];done)
 have b5:(op == 5)=false:=beq_false_of_ne h5
 have b6:(op == 6)=false:=beq_false_of_ne h6
 have b7:(op == 7)=false:=beq_false_of_ne h7
 have b8:(op == 8)=false:=beq_false_of_ne h8
 simp [h5,h6,h7,h8,b5,b6,b7,b8]
theorem Ahb(L:Nat)(op a b:Int):Hn L op a b=some (Axy op a b):=by
 simp only [Hu,Hv,Kk,Gt,Kj,Gs,Ki,Gr,Kh,W3,Hn,Ao,Au,Al,Am,Ar,Ap,Ak,Av,Aw,Aq,Ax,Yv,Option.bind_some,D7,Dz,O8,Axy,Afb]
 congr 1
 rcases Akn op with rfl|rfl|rfl|rfl|rfl|rfl|rfl|rfl|rfl|rfl|rfl|rfl|rfl|rfl|rfl|rfl|rfl|rfl|rfl|rfl|rfl|rfl|rfl|rfl|rfl|rfl|hop|hop
 all_goals first|(simp;done)|(simp;grind)|grind
theorem Aoo(L:Nat)(op a b:Int):Mu L op a b=some (Axy op a b):=by
 simp only [Mo,Ou,Jn,Ot,Jm,Oq,Jl,Oo,n8,Mu,Ao,Au,Al,Am,Ar,Ap,Ak,Av,Aw,Aq,Ax,Xa,Option.bind_some,D7,Dz,O8,Axy,Afb]
 congr 1
 rcases Akn op with rfl|rfl|rfl|rfl|rfl|rfl|rfl|rfl|rfl|rfl|rfl|rfl|rfl|rfl|rfl|rfl|rfl|rfl|rfl|rfl|rfl|rfl|rfl|rfl|rfl|rfl|hop|hop
 all_goals first|(simp;done)|(simp;grind)|grind
theorem Ahc(L:Nat)(op:Int)(k:ByteArray):Ho L op k=some (A53 op k):=by
 simp only [Tv,Ho,Ao,Au,Al,Am,Ar,Ap,Ak,Av,Aw,Aq,Ax,G8,O8,D7,A53,Hc,O9,Qo]
 congr 1
 by_cases h:op=22
 ·subst h;rfl
 by_cases h':op=23
 ·subst h';rfl
 have b:(op == 22)=false:=beq_false_of_ne h
 have b':(op == 23)=false:=beq_false_of_ne h'
 simp only [h,h',b,b',cond_false,if_false]
 rfl
end Go.Proofs.YtcbandfdmbkokaaGreat.Ev
