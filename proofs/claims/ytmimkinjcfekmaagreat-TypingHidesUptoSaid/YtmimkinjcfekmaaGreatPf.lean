/-  Chapters 11 and 14, plainly: kinds in the reference; types of expressions. -/
import Derived.Test.YtmimkinjcfekmaaGreatPe
import Derived.Test.YtmimkinjcfekmaaGreatR0
namespace Go.Proofs.YtmimkinjcfekmaaGreat.Ev
open Go An
set_option maxRecDepth 100000
set_option linter.unusedVariables false
set_option linter.unusedSimpArgs false
set_option linter.unnecessarySimpa false
def f8(l:List Ai)(s:ByteArray):Option Int:=(l.reverse.find? fun f=>decide (f.Name=s)).map (·.Type_)
def Ahv(l:List Aw)(s:ByteArray):Option Int:=(l.find? fun x=>decide (x.Name=s)).map (·.Type_)
def o2:Option Int→Int×Bool
 |some t=>(t,true)
 |none=>(0,false)
def Qb(v:Ae)(s:ByteArray):Option Int:=match f8 v.Locals s with
 |some t=>some t
 |none=>match Ahv v.Site.Vars s with
  |some t=>some t
  |none=>Ahv v.Params s
theorem S0(L:Nat)(l:List Ai)(s:ByteArray)(hl:l.length≤maxLen):∀(j n:Nat),j≤l.length→j < n→
  ∃i,B2 L l s n 0 false ((j:Int) - 1)=some (match (l.take j).reverse.find? (fun f=>decide (f.Name=s)) with|some f=>(0,(f.Type_,true,i))|none=>(1,(0,false,i))):=by
 intro j
 induction j with
 |zero=>
  intro n _ hn
  obtain ⟨n,rfl⟩:∃k,n=k+1:=⟨n - 1,by omega⟩
  exact ⟨_,by simp only [B2,Dm,aN];rfl⟩
 |succ j ih=>
  intro n hj hn
  obtain ⟨n,rfl⟩:∃k,n=k+1:=⟨n - 1,by omega⟩
  have hlt:j < l.length:=by omega
  have e0:((j+1:Nat):Int) - 1=(j:Int):=by omega
  have e1:decide ((j:Int)≥0)=true:=decide_eq_true (by omega)
  have et:(l.take (j+1)).reverse=l.getD j default::(l.take j).reverse:=by
   rw [List.take_succ_eq_append_getElem hlt,List.reverse_append,J1 l j hlt];rfl
  obtain ⟨i,hi⟩:=ih n (by omega) (by omega)
  rw [et]
  rw [List.find?_cons]
  cases hb:decide ((l.getD j default).Name=s) with
  |true=>exact ⟨(j:Int),by simp only [B2,Dm,aN,Hl,e0,e1,nn,g0 hlt,toN,hb,cond_true,if_true,decide_true]⟩
  |false=>exact ⟨i,by simp only [B2,Dm,aN,Hl,e0,e1,nn,g0 hlt,toN,hb,cond_true,cond_false,if_true,decide_true,Zs (show j≤maxLen by omega),hi]⟩
theorem S1(L:Nat)(l:List Ai)(s:ByteArray)(hl:l.length≤maxLen)(hL:l.length < L):H6 L l s=some (o2 (f8 l s)):=by
 obtain ⟨i,hi⟩:=S0 L l s hl l.length L (Nat.le_refl _) hL
 rw [List.take_length] at hi
 simp only [M4,Dp,H6,Dp,aN,Zs hl,hi,f8]
 cases l.reverse.find? (fun f=>decide (f.Name=s))<;>rfl
theorem S7(L:Nat)(s:ByteArray)(v0:Ae):∀(k:List Aw) (i:Nat) (v:Int) (w:Bool),∃j,Cm L s v0 k i v w=some (match k.find? (fun x=>decide (x.Name=s)) with|some x=>(0,(x.Type_,true,j))|none=>(1,(v,w,j))):=by
 intro k
 induction k with
 |nil=>intro i v w;exact ⟨i,rfl⟩
 |cons x k ih=>
  intro i v w
  obtain ⟨j,hj⟩:=ih (i+1) v w
  rw [Cm,List.find?_cons,Hl]
  cases decide (x.Name=s) with
  |true=>exact ⟨i,rfl⟩
  |false=>exact ⟨j,hj⟩
theorem S8(L:Nat)(s:ByteArray)(v0:Ae):∀(k:List Aw) (i:Nat) (v:Int) (w:Bool),∃j,Cn L s v0 k i v w=some (match k.find? (fun x=>decide (x.Name=s)) with|some x=>(0,(x.Type_,true,j))|none=>(1,(v,w,j))):=by
 intro k
 induction k with
 |nil=>intro i v w;exact ⟨i,rfl⟩
 |cons x k ih=>
  intro i v w
  obtain ⟨j,hj⟩:=ih (i+1) v w
  rw [Cn,List.find?_cons,Hl]
  cases decide (x.Name=s) with
  |true=>exact ⟨i,rfl⟩
  |false=>exact ⟨j,hj⟩
theorem Np(L:Nat)(v:Ae)(s:ByteArray)(h:Iu v)(hL:maxLen < L):Gz L v s=some (o2 (Qb v s)):=by
 obtain ⟨⟨h1,_⟩,⟨h2,_⟩,h3⟩:=h
 have h4:=h3.len.1
 obtain ⟨j1,e1⟩:=S7 L s v v.Site.Vars 0 0 false
 obtain ⟨j2,e2⟩:=S8 L s v v.Params 0 0 false
 simp only [Oi,Gq,Gl,Gr,Dz,Gz,Gq,Gl,Gr,Dz,aN,aB,S1 L _ s h2 (by omega),Qn L s v L h4 (by omega),Qo L s v L h1 (by omega),e1,Option.bind_some,Qb,Ahv]
 cases f8 v.Locals s with
 |some t=>rfl
 |none=>
  simp only [o2,cond_false]
  cases v.Site.Vars.find? (fun x=>decide (x.Name=s)) with
  |some t=>rfl
  |none=>
   simp only [Ac6,e2,Option.bind_some,Option.map_none]
   cases v.Params.find? (fun x=>decide (x.Name=s))<;>rfl
def W9(t:Int):Bool:=t == 1 || t == 3
def unT(op a:Int):Int:=if (op=5∧W9 a=true)∨(op=6∧a=2) then a else if op=7∧a=1 then 3 else if op=8∧a=3 then 1 else 0
def Aea(op a b:Int):Int:=
 if op=9∨op=10∨op=13∨op=20∨op=21 then (if a=b∧W9 a=true then a else 0)
 else if op=11 then (if a=1∧b=1 then 1 else if W9 a=true∧W9 b=true∧a≠b then 3 else 0)
 else if op=12 then (if (a=1∧b=1)∨(a=3∧b=3) then 1 else if a=3∧b=1 then 3 else 0)
 else if op=14∨op=15 then (if a=b then 2 else 0)
 else if op=16∨op=17 then (if a=b∧W9 a=true then 2 else 0)
 else if op=18∨op=19 then (if a=2∧b=2 then 2 else 0)
 else 0
def Aew(op:Int)(k:ByteArray):Bool:=if op=22 then decide (k=Je) else if op=23 then decide (k=Qi) else decide (k=Je) || decide (k=Qh)
theorem Km(L:Nat)(t:Int):Bo L t=some (W9 t):=by
 simp only [Ib,Bo,aN,aB,Ol,W9]
theorem S2(L:Nat)(op a:Int):H7 L op a=some (unT op a):=by
 simp only [Kd,H7,aN,aB,Km,Option.bind_some,Ii,Jo,Ol,unT]
 congr 1
 by_cases h5:op=5
 ·subst h5;cases W9 a<;>simp
 by_cases h6:op=6
 ·subst h6;by_cases h:a=2<;>first|(simp [h];done)|(simp [h,beq_false_of_ne h];done)
 by_cases h7:op=7
 ·subst h7;by_cases h:a=1<;>first|(simp [h];done)|(simp [h,beq_false_of_ne h];done)
 by_cases h8:op=8
 ·subst h8;by_cases h:a=3<;>first|(simp [h];done)|(simp [h,beq_false_of_ne h];done)
 have b5:(op == 5)=false:=beq_false_of_ne h5
 have b6:(op == 6)=false:=beq_false_of_ne h6
 have b7:(op == 7)=false:=beq_false_of_ne h7
 have b8:(op == 8)=false:=beq_false_of_ne h8
 simp [h5,h6,h7,h8,b5,b6,b7,b8]
theorem Rv(L:Nat)(op a b:Int):G8 L op a b=some (Aea op a b):=by
 simp only [Ea,Eb,sx_typing_binary_4,Hp,sx_typing_binary_3,Hn,sx_typing_binary_1,Hm,sx_typing_binary_0,Mj,G8,aN,aB,Km,Option.bind_some,Ii,Jo,Ol,Aea,W9]
 congr 1
 rcases Ae0 op with rfl|rfl|rfl|rfl|rfl|rfl|rfl|rfl|rfl|rfl|rfl|rfl|rfl|rfl|rfl|rfl|rfl|rfl|rfl|rfl|rfl|rfl|rfl|rfl|rfl|rfl|hop|hop
 all_goals first|(simp;done)|(simp;grind)|grind
theorem Rw(L:Nat)(op:Int)(k:ByteArray):G9 L op k=some (Aew op k):=by
 simp only [Jn,G9,aN,aB,Hl,Ol,Ii,Aew,Je,Qi,Qh]
 congr 1
 by_cases h:op=22
 ·subst h;rfl
 by_cases h':op=23
 ·subst h';rfl
 have b:(op == 22)=false:=beq_false_of_ne h
 have b':(op == 23)=false:=beq_false_of_ne h'
 simp only [h,h',b,b',cond_false,if_false]
 rfl
end Go.Proofs.YtmimkinjcfekmaaGreat.Ev
