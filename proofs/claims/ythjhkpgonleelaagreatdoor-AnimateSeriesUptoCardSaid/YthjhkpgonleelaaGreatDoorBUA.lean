/-  Chapter 17, plainly: what Check of a program says (definitions); instructions of the program. -/
import Derived.Test.YthjhkpgonleelaaGreatDoorBQA
import Derived.Test.YthjhkpgonleelaaGreatDoorBCG
import Derived.Test.YthjhkpgonleelaaGreatDoorBR0
namespace Go.Proofs.YthjhkpgonleelaaGreatDoor.Ev
open Go An
set_option maxRecDepth 100000
set_option linter.unusedVariables false
set_option linter.unusedSimpArgs false
set_option linter.unnecessarySimpa false
def Z5(op:Int):Bool:=decide (1≤op) && decide (op≤19)
def Zi(op:Int):Qr:=Z1.getD (Int.toNat op) default
def Aly(i:Bm):Bool:=
 ((Zi i.Op).u_a != 0 || i.A == 0) && ((Zi i.Op).u_b != 0 || i.B == 0) && ((Zi i.Op).u_c || i.C == 0) && ((Zi i.Op).u_e || Ad4 i.E) && ((Zi i.Op).u_f || Ad4 i.F)
  && ((Zi i.Op).u_args || decide (i.Args.length=0)) && ((Zi i.Op).u_dist || Adx i.Dist d9) && ((Zi i.Op).u_preempt || !i.Flag)
def Eb(p:Ad)(s:Int):Bk:=p.Sites.getD (Int.toNat s) default
def Aey(p:Ad)(s:Int)(c:Bu)(w to:Int):Int:=
 if w=1 then c.Slots else if w=2 then ((Eb p s).Decl.Vars.length:Int) else if w=3 then ((Eb p s).Decl.Streams.length:Int) else if w=4 then (c.Instrs.length:Int)
 else if w=5 then ((Eb p s).Decl.Resources.length:Int) else if w=6 then ((Eb p s).Decl.Stores.length:Int) else if w=7 then ((Eb p s).Decl.Belts.length:Int)
 else if w=8 then ((Eb p s).Decl.Queues.length:Int) else if w=9 then (p.Sites.length:Int) else if w=10 then ((Eb p to).Routines.length:Int)
 else if w=11 then ((Eb p s).Decl.Tallies.length:Int) else if w=12 then ((Eb p s).Decl.Levels.length:Int) else if w=13 then ((Eb p s).Decl.Counts.length:Int) else 1
def g8(p:Ad)(s:Int)(c:Bu)(w n to:Int):Bool:=decide (0≤n) && decide (n < Aey p s c w to)
def inP(p:Ad)(s:Int):Prop:=0≤s∧s < (p.Sites.length:Int)
def Beb(p:Ad)(s:Int)(c:Bu)(e:Ab):Bool:=
 if e.Op=25 then g8 p s c 1 e.N 0 else if e.Op=26 then g8 p s c 2 e.N 0 else if e.Op=22 then g8 p s c 5 e.N 0 else if e.Op=23 then g8 p s c 6 e.N 0
 else if e.Op=24 then decide (e.N < Bi (Aey p s c 5 0+Aey p s c 8 0)) else true
mutual
def Aki(p:Ad)(s:Int)(c:Bu):Ab→Bool
 | .mk op nm n k=>Beb p s c (.mk op nm n k) && Ady p s c k
def Ady(p:Ad)(s:Int)(c:Bu):List Ab→Bool
 | []=>true
 |x::k=>Aki p s c x && Ady p s c k
end
def A4z(l:List D2)(a b:Int):Option Int:=(l.find? fun x=>x.From == a && x.To == b).map (·.Delay)
def Vr(i:Bm):List Ab:=(if (Zi i.Op).u_e then [i.E] else [])++(if (Zi i.Op).u_f then [i.F] else [])++(if (Zi i.Op).u_args then i.Args else [])
def Aox(p:Ad)(s:Int)(c:Bu)(e:Ab):Int:=fE (K0 true e) (X3 (Aki p s c e) 2)
def Aqo(p:Ad)(to:Int)(i:Bm):Int:=
 if g8 p 0 default 10 i.B to=false then 2 else X3 ((i.Args.length:Int) == ((Eb p to).Routines.getD (Int.toNat i.B) default).Params) 8
def Bgr(p:Ad)(s:Int)(c:Bu)(i:Bm):Int:=
 if (g8 p s c (Zi i.Op).u_a i.A 0 || (Zi i.Op).u_a == 0)=false then 2
 else if i.Op=14 then (if A4z p.Links s i.A=some i.C then Aqo p i.A i else 16)
 else if i.Op=15 then Aqo p s i
 else if (g8 p s c (Zi i.Op).u_b i.B 0 || (Zi i.Op).u_b == 0)=false then 2 else 0
def Aip(p:Ad)(s:Int)(c:Bu)(i:Bm):Int:=
 if (Z5 i.Op && Aly i)=false then 1
 else fE (Bgr p s c i) (fE (Y7 (Aox p s c) (Vr i)) (if (Zi i.Op).u_dist then Aes i.Dist else 0))
def Aoo(p:Ad)(s:Int)(c:Bu):Int:=
 if decide (s < 0) || decide (s≥(p.Sites.length:Int)) then 2
 else fE (Ni c.Name) (if c.Params < 0∨c.Params > c.Slots∨c.Params > 6∨c.Slots > 16 then 2 else if c.Instrs.length=0 then 7 else if 1000 < c.Instrs.length then 6
  else fE (Y7 (Aip p s c) c.Instrs) (X3 (decide ((c.Instrs.getD (c.Instrs.length - 1) default).Op=19) || decide ((c.Instrs.getD (c.Instrs.length - 1) default).Op=4)) 8))
def Agt(s:Bk):Bool:=decide (s.Routines.length=s.Decl.Routines.length) && (s.Routines.zip s.Decl.Routines).all fun x=>decide (x.1.Name=x.2.Name) && x.1.Params == (x.2.Params.length:Int) && decide (x.2.Body.length=0)
def Bjm(p:Ad)(seen:List D2)(a:D2):Int:=
 if a.From < 0∨a.From≥(p.Sites.length:Int)∨a.To < 0∨a.To≥(p.Sites.length:Int)∨a.From=a.To∨a.Delay < 1∨a.Delay > 1000000000 then 2
 else X3 (!seen.any fun x=>x.From == a.From && x.To == a.To) 4
def Aok(p:Ad):List D2→List D2→Int
 |_,[]=>0
 |seen,l::k=>fE (Bjm p seen l) (Aok p (seen++ [l]) k)
def Ayx(p:Ad):Int:=if 32 < p.Links.length then 6 else Aok p [] p.Links
def Af2(p:Ad)(s:Bk):Aq:=⟨p.Name,[],[s.Decl],[]⟩
def Ajs(tm:Aa→Be→Int)(p:Ad):List ByteArray→List Bk→Int
 |_,[]=>0
 |seen,s::k=>fE (Arj tm (Af2 p s)) (fE (X3 (!seen.any fun x=>decide (x=s.Decl.Name)) 4) (fE (X3 (Agt s) 8) (Ajs tm p (seen++ [s.Decl.Name]) k)))
def Ah9(p:Ad):Nat→List Bk→Int
 |_,[]=>0
 |i,s::k=>fE (Y7 (Aoo p (i:Int)) s.Routines) (Ah9 p (i+1) k)
def Ae1(tm:Aa→Be→Int)(p:Ad):Int:=
 fE (Ni p.Name) (if p.Sites.length=0 then 7 else if 16 < p.Sites.length then 6 else fE (Ajs tm p [] p.Sites) (fE (Ayx p) (Ah9 p 0 p.Sites)))
theorem Ae0(L:Nat)(op:Int):Tx L op=some (Z5 op):=by
 simp only [Abi,Tx,aN,aB,Z5,Kz,ge_iff_le]
theorem Z6{op:Int} :Z5 op=true↔1≤op∧op≤19:=by simp [Z5]
theorem Aq8:Z1.length=20:=rfl
theorem Aro(L:Nat)(e:Ab)(hL:1 < L):Xg L e=some (Ad4 e):=by
 simp only [Ac4,Xg,aN,aB,Ab.cp_eq,u9 L e hL,Option.bind_some]
structure InG (i:Bm):Prop where
 ok:Y3 i
 bk:Lh i≤1048576
theorem An2(L:Nat)(i:Bm)(hk:Z5 i.Op=true)(hd:okD i.Dist)(hL:maxLen < L):Tw L i=some (Aly i):=by
 obtain ⟨h1,h2⟩:=Z6.1 hk
 have hl:(1:Nat) < L:=by unfold maxLen at hL;omega
 have e0:((i.Args.length:Int) == 0)=decide (i.Args.length=0):=by
  by_cases h:i.Args.length=0
  ·rw [h];rfl
  ·rw [decide_eq_false h];exact beq_eq_false_iff_ne.2 (by omega)
 simp only [Abh,Tw,aN,aB,Ab.cp_eq,Aro L _ hl,Zd L i.Dist d9 hd hL,show (⟨0,0,0,0,[],[]⟩:Cp)=d9 from rfl,Option.bind_some,e0]
 rw [if_pos (show (0:Int)≤i.Op by omega),if_pos (show i.Op < ((Z1.length:Nat):Int) by rw [Aq8];omega)]
 show _=some (Aly i)
 unfold Aly
 rw [show Z1.getD (Int.toNat i.Op) default=Zi i.Op from rfl]
 generalize ((Zi i.Op).u_a != 0)=b1
 generalize (i.A == 0)=b2
 generalize ((Zi i.Op).u_b != 0)=b3
 generalize (i.B == 0)=b4
 generalize ((Zi i.Op).u_c)=b5
 generalize (i.C == 0)=b6
 generalize ((Zi i.Op).u_e)=b7
 generalize Ad4 i.E=b8
 generalize ((Zi i.Op).u_f)=b9
 generalize Ad4 i.F=b10
 generalize ((Zi i.Op).u_args)=b11
 generalize decide (i.Args.length=0)=b12
 generalize ((Zi i.Op).u_dist)=b13
 generalize Adx i.Dist d9=b14
 generalize ((Zi i.Op).u_preempt)=b15
 generalize i.Flag=b16
 have key:∀a b:Bool,(bif a then true else b)=(a || b):=by decide
 have key2:∀a b:Bool,(bif a then b else false)=(a && b):=by decide
 simp only [key,key2]
 cases (b1 || b2)<;>cases (b3 || b4)<;>cases (b5 || b6)<;>cases b7<;>cases b8<;>cases b9<;>cases b10<;>cases (b11 || b12)<;>cases b13<;>cases b14<;>cases b15<;>cases b16<;>rfl
theorem Z9(L:Nat)(x:Ar)(w to:Int)(hs:inP x.u_p x.u_site)(ht:w=10→inP x.u_p to):F2 L x w to=some (Aey x.u_p x.u_site x.u_c w to):=by
 have e:∀(a b:Int),(a == b)=decide (a=b):=fun _ _=>rfl
 simp only [T2,F2,aN,aB,e]
 rw [if_pos hs.1,if_pos hs.2]
 unfold Aey Eb
 by_cases h1:w=1<;>simp only [h1,decide_true,decide_false,cond_true,cond_false,if_true,if_false]
 by_cases h2:w=2<;>simp only [h2,decide_true,decide_false,cond_true,cond_false,if_true,if_false]
 by_cases h3:w=3<;>simp only [h3,decide_true,decide_false,cond_true,cond_false,if_true,if_false]
 by_cases h4:w=4<;>simp only [h4,decide_true,decide_false,cond_true,cond_false,if_true,if_false]
 by_cases h5:w=5<;>simp only [h5,decide_true,decide_false,cond_true,cond_false,if_true,if_false]
 by_cases h6:w=6<;>simp only [h6,decide_true,decide_false,cond_true,cond_false,if_true,if_false]
 by_cases h7:w=7<;>simp only [h7,decide_true,decide_false,cond_true,cond_false,if_true,if_false]
 by_cases h8:w=8<;>simp only [h8,decide_true,decide_false,cond_true,cond_false,if_true,if_false]
 by_cases h9:w=9<;>simp only [h9,decide_true,decide_false,cond_true,cond_false,if_true,if_false]
 by_cases h10:w=10
 ·simp only [h10,decide_true,cond_true,if_true,if_pos (ht h10).1,if_pos (ht h10).2]
 simp only [h10,decide_false,cond_false,if_false]
 by_cases h11:w=11<;>simp only [h11,decide_true,decide_false,cond_true,cond_false,if_true,if_false]
 by_cases h12:w=12<;>simp only [h12,decide_true,decide_false,cond_true,cond_false,if_true,if_false]
 by_cases h13:w=13<;>simp only [h13,decide_true,decide_false,cond_true,cond_false,if_true,if_false]
theorem Uo(L:Nat)(x:Ar)(w n to:Int)(hs:inP x.u_p x.u_site)(ht:w=10→inP x.u_p to):Cu L x w n to=some (g8 x.u_p x.u_site x.u_c w n to):=by
 have e:=Z9 L x w to hs ht
 simp only [Vi,Cu,aN,aB,g8]
 rw [show F2 L ⟨⟨x.u_p.Name,x.u_p.Sites,x.u_p.Links⟩,x.u_site,x.u_c⟩ w to=some (Aey x.u_p x.u_site x.u_c w to) from e]
 by_cases h:0≤n
 ·simp [h]
 ·simp [h]
end Go.Proofs.YthjhkpgonleelaaGreatDoor.Ev
namespace Go.Proofs.YthjhkpgonleelaaGreatDoor.Ev
open Go An
set_option maxRecDepth 100000
set_option linter.unusedVariables false
set_option linter.unusedSimpArgs false
set_option linter.unnecessarySimpa false
theorem A3c{α :Type} [Inhabited α](l:List α)(i:Nat)(h:i < l.length):l.drop i=l.getD i default::l.drop (i+1):=by
 rw [List.drop_eq_getElem_cons h,Za l i h]
theorem Auu(rec:Ar→Ab→Option Bool)(L:Nat)(l:List Ab)(x:Ar)(e:Ab):∀(k:List Ab) (i:Nat) (v:Int),(∀y∈k,rec x y=some (Aki x.u_p x.u_site x.u_c y))→
  ∃n:Nat,D9 rec L l x e k i v=some (bif Ady x.u_p x.u_site x.u_c k then (1,(v,(n:Int))) else (0,((n:Int),(n:Int)))):=by
 intro k
 induction k with
 |nil=>intro i v _;exact ⟨i,by rw [D9,Ady];rfl⟩
 |cons y k ih=>
  intro i v h
  obtain ⟨n,hn⟩:=ih (i+1) v fun z hz=>h z (by simp [hz])
  rw [D9,show rec ⟨⟨x.u_p.Name,x.u_p.Sites,x.u_p.Links⟩,x.u_site,x.u_c⟩ y=_ from h y (by simp),Option.bind_some,Ady]
  cases Aki x.u_p x.u_site x.u_c y with
  |true=>exact ⟨n,by rw [Bool.not_true,cond_false,hn,Bool.true_and]⟩
  |false=>exact ⟨i,rfl⟩
theorem Afr{e:Ab}(h:Cq e)(x:Ar)(hs:inP x.u_p x.u_site):∀L,maxLen+dE e < L→Cx L x e=some (Aki x.u_p x.u_site x.u_c e):=by
 induction h with
 |mk a0 a1 a2 a3 h0 h1 h2 h3 h4 ih=>
  intro L hL
  obtain ⟨L,rfl⟩:∃k,L=k+1:=⟨L - 1,by omega⟩
  rw [dE] at hL
  have hr:∀y∈a3,Cx L x y=some (Aki x.u_p x.u_site x.u_c y):=fun y hy=>ih y hy L (by have:=Ak9 hy;omega)
  obtain ⟨n,hn⟩:=Auu (Cx L) L a3 x (.mk a0 a1 a2 a3) a3 0 0 hr
  have hic:Dm (Cx L) L a3 x (.mk a0 a1 a2 a3)=some (bif Ady x.u_p x.u_site x.u_c a3 then -1 else (n:Int)):=by
   simp only [Dm,Xp,Ls,aN,aB,Acs _ _ a3 x (.mk a0 a1 a2 a3) _ h3 (show a3.length < L by omega),hn,Option.bind_some]
   cases Ady x.u_p x.u_site x.u_c a3<;>rfl
  have hz:(!decide ((bif Ady x.u_p x.u_site x.u_c a3 then (-1:Int) else (n:Int))≥0))=Ady x.u_p x.u_site x.u_c a3:=by
   cases Ady x.u_p x.u_site x.u_c a3 with
   |true=>rfl
   |false=>rw [cond_false,decide_eq_true (show (n:Int)≥0 by omega)];rfl
  have hh:∀w,w≠10→Cu L ⟨⟨x.u_p.Name,x.u_p.Sites,x.u_p.Links⟩,x.u_site,x.u_c⟩ w a2 0=some (g8 x.u_p x.u_site x.u_c w a2 0):=fun w hw=>Uo L x w a2 0 hs fun h=>absurd h hw
  have hm:∀w,w≠10→F2 L ⟨⟨x.u_p.Name,x.u_p.Sites,x.u_p.Links⟩,x.u_site,x.u_c⟩ w 0=some (Aey x.u_p x.u_site x.u_c w 0):=fun w hw=>Z9 L x w 0 hs fun h=>absurd h hw
  have eq:∀(a b:Int),(a == b)=decide (a=b):=fun _ _=>rfl
  simp only [j9,Ly,H9,Ia,Ib,Ic,Ie,Ig,Tt,Cx,Ly,H9,Ia,Ib,Ic,Ie,Ig,aN,aB,Ab.cp_eq,Ab.Op,Ab.Name,Ab.N,Ab.Kids,Ab.eta,hh 1 (by decide),hh 2 (by decide),hh 5 (by decide),hh 6 (by decide),hm 5 (by decide),hm 8 (by decide),hic,Option.bind_some,hz,Aki,Beb,eq]
  by_cases e1:a0=25
  ·simp only [e1,decide_true,cond_true,if_true];cases g8 x.u_p x.u_site x.u_c 1 a2 0<;>rfl
  by_cases e2:a0=26
  ·simp only [e1,e2,decide_true,decide_false,cond_true,cond_false,if_true,if_false];cases g8 x.u_p x.u_site x.u_c 2 a2 0<;>rfl
  by_cases e3:a0=22
  ·simp only [e1,e2,e3,decide_true,decide_false,cond_true,cond_false,if_true,if_false];cases g8 x.u_p x.u_site x.u_c 5 a2 0<;>rfl
  by_cases e4:a0=23
  ·simp only [e1,e2,e3,e4,decide_true,decide_false,cond_true,cond_false,if_true,if_false];cases g8 x.u_p x.u_site x.u_c 6 a2 0<;>rfl
  by_cases e5:a0=24
  ·subst e5
   generalize Ady x.u_p x.u_site x.u_c a3=r
   by_cases hq:a2 < Bi (Aey x.u_p x.u_site x.u_c 5 0+Aey x.u_p x.u_site x.u_c 8 0)<;>simp [hq]
  ·simp only [e1,e2,e3,e4,e5,decide_false,cond_false,if_false,Bool.true_and]
theorem Aru(L:Nat)(l:List D2)(p:Ad)(a b:Int):∀(k:List D2) (i:Nat) (v:Int),L7 L l p a b k i v=
  some (match k.findIdx? (fun x=>x.From == a && x.To == b) with|some j=>(0,(((i+j:Nat):Int),((i+j:Nat):Int)))|none=>(1,(v,((i+k.length:Nat):Int)))):=by
 intro k
 induction k with
 |nil=>intro i v;rfl
 |cons x k ih=>
  intro i v
  rw [L7,ih,List.findIdx?_cons,Kz]
  cases hc:(x.From == a && x.To == b) with
  |true=>rfl
  |false=>
   simp only [cond_false,Bool.false_eq_true,if_false]
   cases k.findIdx? (fun x=>x.From == a && x.To == b) with
   |some j=>simp [Nat.add_assoc,Nat.add_comm 1]
   |none=>simp [Nat.add_assoc,Nat.add_comm 1]
theorem A88(l:List D2)(a b:Int):A4z l a b=(l.findIdx? fun x=>x.From == a && x.To == b).map fun j=>(l.getD j default).Delay:=by
 unfold A4z
 induction l with
 |nil=>rfl
 |cons x l ih=>
  rw [List.find?_cons,List.findIdx?_cons]
  cases hc:(x.From == a && x.To == b) with
  |true=>rfl
  |false=>
   simp only [Bool.false_eq_true,if_false]
   rw [ih]
   cases l.findIdx? (fun x=>x.From == a && x.To == b)<;>rfl
theorem Auo(L:Nat)(p:Ad)(a b:Int)(hl:p.Links.length≤maxLen)(hL:maxLen < L):Zm L p a b=some (match A4z p.Links a b with|some d=>(d,true)|none=>(0,false)):=by
 rw [A88]
 have hic:W8 L p.Links p a b=some (Adm (p.Links.findIdx? fun x=>x.From == a && x.To == b)):=by
  simp only [W8,Aex,Xd,aN,aB,Ami L p.Links p a b L hl (by omega),Aru,Option.bind_some]
  cases p.Links.findIdx? (fun x=>x.From == a && x.To == b) with
  |none=>rfl
  |some i=>simp [Adm,R4]
 simp only [Aln,Sc,Zm,Sc,aN,aB,hic,Option.bind_some]
 cases hf:p.Links.findIdx? (fun x=>x.From == a && x.To == b) with
 |none=>rfl
 |some i=>
  have hi:i < p.Links.length:=(List.findIdx?_eq_some_iff_getElem.1 hf).1
  show (bif decide ((i:Int) < 0) then _ else _)=_
  rw [decide_eq_false (show¬(i:Int) < 0 by omega),cond_false]
  show (if (0:Int)≤(i:Int) then (if (i:Int) < ((p.Links.length:Nat):Int) then _ else none) else none)=_
  rw [if_pos (show (0:Int)≤(i:Int) by omega),if_pos (show (i:Int) < ((p.Links.length:Nat):Int) by omega)]
  show some ((p.Links.getD (Int.toNat (i:Int)) default).Delay,true)=_
  rw [toN]
  rfl
theorem Yv(L:Nat)(i:Bm)(hk:Z5 i.Op=true)(hl:i.Args.length≤1048576):Ec L i=some (Vr i):=by
 obtain ⟨h1,h2⟩:=Z6.1 hk
 simp only [Th,Ec,aN,aB,Ab.cp_eq,Ae0,hk,Option.bind_some,Bool.not_true,cond_false]
 rw [if_pos (show (0:Int)≤i.Op by omega),if_pos (show i.Op < ((Z1.length:Nat):Int) by rw [Aq8];omega)]
 rw [show Z1.getD (Int.toNat i.Op) default=Zi i.Op from rfl]
 unfold Vr
 cases (Zi i.Op).u_e<;>cases (Zi i.Op).u_f<;>cases (Zi i.Op).u_args<;>simp only [cond_true,cond_false,if_true,if_false,List.length_cons,List.length_nil,List.length_append,List.nil_append,List.append_nil,Bool.false_eq_true,List.cons_append]
 all_goals (unfold maxLen;repeat (first|rw [if_pos (by omega)]|rfl))
theorem Bko{op:Int}(h:Z5 op=true):(Zi op).u_a≠10:=by
 obtain ⟨h1,h2⟩:=Z6.1 h
 obtain ⟨n,rfl⟩:∃n:Nat,op=(n:Int):=⟨op.toNat,by omega⟩
 have:∀k:Fin 20,(Zi (k.val:Int)).u_a≠10:=by decide
 exact this ⟨n,by omega⟩
theorem Bkp{op:Int}(h:Z5 op=true)(h14:op≠14)(h15:op≠15):(Zi op).u_b≠10:=by
 obtain ⟨h1,h2⟩:=Z6.1 h
 obtain ⟨n,rfl⟩:∃n:Nat,op=(n:Int):=⟨op.toNat,by omega⟩
 have:∀k:Fin 20,(k.val:Int)≠14→(k.val:Int)≠15→(Zi (k.val:Int)).u_b≠10:=by decide
 exact this ⟨n,by omega⟩ h14 h15
theorem Ahl{e:Ab}(h:Cq e)(L:Nat)(hL:maxLen+dE e < L):Hr L e=some (K0 true e):=by
 simp only [Vj,Hr,aN,aB,Ab.cp_eq,b0 h ⟨true⟩ L hL,Option.bind_some]
theorem Arv(L:Nat)(l:List Ab)(x:Ar)(i:Bm)(hs:inP x.u_p x.u_site)(k:List Ab)(hk:∀e∈k,Cq e∧maxLen+dE e < L)(j:Nat)(v:Int):
  ∃m,D1 L l x i k j v=some (if Y7 (Aox x.u_p x.u_site x.u_c) k=0 then (1,(v,m)) else (0,(Y7 (Aox x.u_p x.u_site x.u_c) k,m))):=by
 refine Ayw (lq:=D1 L l x i) (bd:=fun e=>(Hr L e).bind fun r=>bif r != 0 then some r else (Cx L x e).bind fun q=>bif !q then some 2 else some 0) (fun _ _=>rfl) (fun e k j v=> ?_) k j v fun e he=> ?_
 ·rw [D1]
  show (Hr L e).bind _=_
  rw [Option.bind_assoc]
  congr 1
  funext r
  cases hr:r != 0 with
  |true=>simp only [cond_true,Option.bind_some,hr]
  |false=>
   simp only [cond_false,Option.bind_assoc]
   show (Cx L x e).bind _=_
   congr 1
   funext q
   cases q<;>rfl
 ·obtain ⟨h1,h2⟩:=hk e he
  rw [Ahl h1 L h2,Option.bind_some,Afr h1 x hs L h2,Option.bind_some]
  unfold Aox
  by_cases h0:K0 true e=0
  ·rw [h0,Pt]
   cases Aki x.u_p x.u_site x.u_c e<;>rfl
  ·rw [Ox h0,g6 h0];rfl
end Go.Proofs.YthjhkpgonleelaaGreatDoor.Ev
namespace Go.Proofs.YthjhkpgonleelaaGreatDoor.Ev
open Go An
set_option maxRecDepth 100000
set_option linter.unusedVariables false
set_option linter.unusedSimpArgs false
set_option linter.unnecessarySimpa false
theorem A98(p:Ad)(s:Int)(c:Bu)(n to:Int):g8 p s c 10 n to=g8 p 0 default 10 n to:=rfl
theorem A66(p:Ad)(s:Int)(c:Bu)(to:Int):Aey p s c 10 to=((Eb p to).Routines.length:Int):=rfl
theorem InG.exprs{i:Bm}(h:InG i):∀e∈Vr i,Cq e∧dE e≤1048576:=by
 obtain ⟨⟨_,_,_,_,hE,hF,⟨_,hA⟩,_,_⟩,hb⟩:=h
 have b:B3 i.E+(B3 i.F+(Er B3 i.Args))≤1048576:=by unfold Lh at hb;omega
 intro e he
 unfold Vr at he
 rcases List.mem_append.1 he with he|he
 ·rcases List.mem_append.1 he with he|he
  ·split at he
   ·obtain rfl:=List.mem_singleton.1 he
    exact ⟨hE,Nat.le_trans (Alz _) (by omega)⟩
   ·cases he
  ·split at he
   ·obtain rfl:=List.mem_singleton.1 he
    exact ⟨hF,Nat.le_trans (Alz _) (by omega)⟩
   ·cases he
 ·split at he
  ·exact ⟨hA e he,Nat.le_trans (Alz _) (Nat.le_trans (Sd (g:=B3) he) (by omega))⟩
  ·cases he
theorem Ajv{α :Type}{g: α→Nat}(hg:∀x,1≤g x)(l:List α):l.length≤Er g l:=by
 induction l with
 |nil=>exact Nat.zero_le _
 |cons x l ih=>
  have:=hg x
  show l.length+1≤g x+Er g l
  omega
theorem A9c(e:Ab):1≤B3 e:=by cases e;rw [B3];omega
theorem InG.args{i:Bm}(h:InG i):i.Args.length≤1048576:=by
 have hb:=h.bk
 have:=Ajv A9c i.Args
 unfold Lh at hb;omega
theorem InG.dist{i:Bm}(h:InG i):okD i.Dist:=Aw2 (by have hb:=h.bk;unfold Lh at hb;omega)
theorem Awi{i:Bm}(h:InG i):(Vr i).length≤1048578:=by
 have:=h.args
 unfold Vr
 split<;>split<;>split<;>simp<;>omega
def A1j(p:Ad)(s:Int)(c:Bu)(i:Bm):Int:=fE (Y7 (Aox p s c) (Vr i)) (if (Zi i.Op).u_dist then Aes i.Dist else 0)
theorem Aop(L:Nat)(x:Ar)(i:Bm)(hi:InG i)(hs:inP x.u_p x.u_site)(hL:Ts≤L)(v:Int){T:Nat×L1→Option Int}(hT:∀o,T o=Ahw o.1 [some o.2.1,bif (Zi i.Op).u_dist then (Em L i.Dist).bind fun r=>some r else some 0]):
  ((Ct L (Vr i) x i L 0 0).bind T)=some (A1j x.u_p x.u_site x.u_c i):=by
 have hl:=Mb hL
 have hbig:maxLen+4194304≤L:=hL
 have hle:=Awi hi
 obtain ⟨m,hm⟩:=Arv L (Vr i) x i hs (Vr i) (fun e he=>⟨(hi.exprs e he).1,by have:=(hi.exprs e he).2;omega⟩) 0 0
 rw [Ab1 L (Vr i) x i L (by unfold maxLen;omega) (by omega),hm,Option.bind_some,hT]
 unfold A1j
 by_cases h0:Y7 (Aox x.u_p x.u_site x.u_c) (Vr i)=0
 ·rw [if_pos h0,h0,Pt]
  show (bif (Zi i.Op).u_dist then (Em L i.Dist).bind fun r=>some r else some 0)=_
  rw [Xa L i.Dist hi.dist hl,Option.bind_some]
  cases (Zi i.Op).u_dist<;>rfl
 ·rw [if_neg h0,Ox h0];rfl
theorem Alr(L:Nat)(x:Ar)(i:Bm)(hi:InG i)(hk:Z5 i.Op=true)(hs:inP x.u_p x.u_site)(hL:Ts≤L)(to:Int)(hto:inP x.u_p to){T:Nat×L1→Option Int}
  (hT:∀o,T o=Ahw o.1 [some o.2.1,bif (Zi i.Op).u_dist then (Em L i.Dist).bind fun r=>some r else some 0]):
  ((Cu L ⟨⟨x.u_p.Name,x.u_p.Sites,x.u_p.Links⟩,x.u_site,x.u_c⟩ 10 i.B to).bind fun r8=>bif !r8 then some 2 else
   if 0≤to then if to < ((x.u_p.Sites.length:Nat):Int) then if 0≤i.B then if i.B < ((((x.u_p.Sites.getD (Int.toNat to) default).Routines).length:Nat):Int) then
    bif (i.Args.length:Int) != (((x.u_p.Sites.getD (Int.toNat to) default).Routines).getD (Int.toNat i.B) default).Params then some 8 else
     (Ec L ⟨i.Op,i.A,i.B,i.C,i.E,i.F,i.Args,i.Dist,i.Flag⟩).bind fun r9=>(Ct L r9 x i L 0 0).bind T else none else none else none else none)
   =some (fE (Aqo x.u_p to i) (A1j x.u_p x.u_site x.u_c i)):=by
 rw [show Cu L ⟨⟨x.u_p.Name,x.u_p.Sites,x.u_p.Links⟩,x.u_site,x.u_c⟩ 10 i.B to=_ from Uo L x 10 i.B to hs fun _=>hto,Option.bind_some,A98]
 unfold Aqo
 cases hB:g8 x.u_p 0 default 10 i.B to with
 |false=>rfl
 |true=>
  have hB':=hB
  simp only [g8,A66,Bool.and_eq_true,decide_eq_true_eq] at hB'
  simp only [Bool.not_true,cond_false,Bool.true_eq_false,if_false]
  rw [if_pos hto.1,if_pos hto.2,if_pos hB'.1,if_pos (show i.B < ((((x.u_p.Sites.getD (Int.toNat to) default).Routines).length:Nat):Int) from of_decide_eq_true hB'.2)]
  rw [show Ec L ⟨i.Op,i.A,i.B,i.C,i.E,i.F,i.Args,i.Dist,i.Flag⟩=_ from Yv L i hk hi.args,Option.bind_some,Aop L x i hi hs hL 0 hT]
  show (bif !((i.Args.length:Int) == (((Eb x.u_p to).Routines.getD (Int.toNat i.B) default).Params)) then some 8 else _)=_
  cases (i.Args.length:Int) == (((Eb x.u_p to).Routines.getD (Int.toNat i.B) default).Params)<;>rfl
theorem Aeh(L:Nat)(x:Ar)(i:Bm)(hi:InG i)(hs:inP x.u_p x.u_site)(hlk:x.u_p.Links.length≤maxLen)(hL:Ts≤L):Hq L x i=some (Aip x.u_p x.u_site x.u_c i):=by
 have hl:=Mb hL
 unfold Hq Zr
 simp only [O1,aN,aB,Ab.cp_eq,Ae0,Option.bind_some]
 unfold Aip
 cases hk:Z5 i.Op with
 |false=>rfl
 |true=>
  have hc:Tw L ⟨i.Op,i.A,i.B,i.C,i.E,i.F,i.Args,i.Dist,i.Flag⟩=_:=An2 L i hk hi.dist hl
  have hex:Ec L ⟨i.Op,i.A,i.B,i.C,i.E,i.F,i.Args,i.Dist,i.Flag⟩=_:=Yv L i hk hi.args
  have hh:∀w n to,(w=10→inP x.u_p to)→Cu L ⟨⟨x.u_p.Name,x.u_p.Sites,x.u_p.Links⟩,x.u_site,x.u_c⟩ w n to=some (g8 x.u_p x.u_site x.u_c w n to):=fun w n to ht=>Uo L x w n to hs ht
  obtain ⟨h1,h2⟩:=Z6.1 hk
  simp only [Bool.not_true,cond_false,hc,Option.bind_some]
  cases hcl:Aly i with
  |false=>rfl
  |true=>
   simp only [Bool.not_true,cond_false,Bool.and_self,Bool.true_eq_false,if_false]
   rw [if_pos (show (0:Int)≤i.Op by omega),if_pos (show i.Op < ((Z1.length:Nat):Int) by rw [Aq8];omega)]
   rw [show Z1.getD (Int.toNat i.Op) default=Zi i.Op from rfl]
   rw [hh _ _ _ fun h=>absurd h (Bko hk),Option.bind_some]
   show _=some (fE (Bgr x.u_p x.u_site x.u_c i) (A1j x.u_p x.u_site x.u_c i))
   unfold Bgr
   generalize hga:g8 x.u_p x.u_site x.u_c (Zi i.Op).u_a i.A 0=ga
   have e5:(bif !ga then (Zi i.Op).u_a != 0 else false)= !(ga || (Zi i.Op).u_a == 0):=by cases ga<;>rfl
   rw [e5]
   cases hgb:(ga || (Zi i.Op).u_a == 0) with
   |false=>rfl
   |true=>
    simp only [Bool.not_true,cond_false,Bool.true_eq_false,if_false]
    by_cases h14:i.Op=14
    ·have hA:inP x.u_p i.A:=by
      have hfa:(Zi i.Op).u_a=9:=by rw [h14];rfl
      rw [hfa] at hga hgb
      have hgt:ga=true:=by simpa using hgb
      rw [hgt] at hga
      simp only [g8,Bool.and_eq_true,decide_eq_true_eq] at hga
      exact hga
     have e14:(i.Op == 14)=true:=beq_iff_eq.2 h14
     rw [e14,cond_true,if_pos h14,show Zm L ⟨x.u_p.Name,x.u_p.Sites,x.u_p.Links⟩ x.u_site i.A=_ from Auo L x.u_p x.u_site i.A hlk hl,Option.bind_some]
     cases ha:A4z x.u_p.Links x.u_site i.A with
     |none=>rfl
     |some d=>
      by_cases hd:d=i.C
      ·have e7:(d != i.C)=false:=by rw [hd];simp
       simp only [Bool.not_true,cond_false,e7]
       rw [if_pos (show some d=some i.C by rw [hd])]
       exact Alr L x i hi hk hs hL i.A hA fun o=>rfl
      ·have e7:(d != i.C)=true:=bne_iff_ne.2 hd
       simp only [Bool.not_true,cond_false,e7,cond_true]
       rw [if_neg (fun h=>hd (Option.some.inj h)),Ox (by decide)]
    ·have e14:(i.Op == 14)=false:=beq_eq_false_iff_ne.2 h14
     rw [e14,cond_false,if_neg h14]
     by_cases h15:i.Op=15
     ·have e15:(i.Op == 15)=true:=beq_iff_eq.2 h15
      rw [e15,cond_true,if_pos h15]
      exact Alr L x i hi hk hs hL x.u_site hs fun o=>rfl
     ·have e15:(i.Op == 15)=false:=beq_eq_false_iff_ne.2 h15
      rw [e15,cond_false,if_neg h15]
      rw [hh _ _ _ fun h=>absurd h (Bkp hk h14 h15),Option.bind_some,hex,Option.bind_some]
      generalize g8 x.u_p x.u_site x.u_c (Zi i.Op).u_b i.B 0=gb
      have hR:=Aop L x i hi hs hL 0 (T:=fun o=>(Kv L i o:Option Int)) fun o=>rfl
      rw [hR]
      have nz:((Zi i.Op).u_b != 0)= !((Zi i.Op).u_b == 0):=rfl
      rw [nz]
      cases gb<;>cases ((Zi i.Op).u_b == 0)<;>rfl
theorem Amx(L:Nat)(c:Bu)(p:Ad)(s:Int)(hs:inP p s)(hlk:p.Links.length≤maxLen)(hL:Ts≤L)(k:List Bm)(hk:∀i∈k,InG i)(j:Nat)(v:Int):
  ∃m,Gu L c p s k j v=some (if Y7 (Aip p s c) k=0 then (1,(v,m)) else (0,(Y7 (Aip p s c) k,m))):=
 Ayw (lq:=Gu L c p s) (bd:=fun i=>Hq L ⟨p,s,c⟩ i) (fun _ _=>rfl) (fun _ _ _ _=>rfl) k j v fun i hi=>Aeh L ⟨p,s,c⟩ i (hk i hi) hs hlk hL
structure CoG (c:Bu):Prop where
 ok:j7 c
 bk:Ng c≤1048576
theorem CoG.ins{c:Bu}(h:CoG c):∀i∈c.Instrs,InG i:=fun i hi=>⟨h.ok.2.2.2.2 i hi,by have:=Sd (g:=Lh) hi;have hb:=h.bk;unfold Ng at hb;omega⟩
theorem Aky(L:Nat)(p:Ad)(s:Int)(c:Bu)(hc:CoG c)(hlk:p.Links.length≤maxLen)(hL:Ts≤L):Mh L p s c=some (Aoo p s c):=by
 have hl:=Mb hL
 obtain ⟨hn,hP,hS,hI,_⟩:=hc.ok
 have hnm:c.Name.size < L:=Nat.lt_of_le_of_lt hn hl
 have e0:((c.Instrs.length:Int) == 0)=decide (c.Instrs.length=0):=by
  by_cases h:c.Instrs.length=0
  ·rw [h];rfl
  ·rw [decide_eq_false h];exact beq_eq_false_iff_ne.2 (by omega)
 have e1000:decide ((c.Instrs.length:Int) > 1000)=decide (1000 < c.Instrs.length):=gtN _ 1000
 simp only [Ac3,Pp,Lr,Mh,Pp,Lr,aN,aB,Km L c.Name hn hnm,Option.bind_some,e0,e1000]
 unfold Aoo
 cases hs:(decide (s < 0) || decide (s≥(p.Sites.length:Int))) with
 |true=>rw [Rx,hs];rfl
 |false=>
  rw [Rx,hs]
  rw [Bool.or_eq_false_iff,decide_eq_false_iff_not,decide_eq_false_iff_not] at hs
  have hin:inP p s:=⟨by omega,by omega⟩
  simp only [cond_false,Bool.false_eq_true,if_false]
  by_cases h0:Ni c.Name=0
  ·rw [h0,Pt]
   have eP:(bif bif bif decide (c.Params < 0) then true else decide (c.Params > c.Slots) then true else decide (c.Params > 6) then true else decide (c.Slots > 16))=decide (c.Params < 0∨c.Params > c.Slots∨c.Params > 6∨c.Slots > 16):=by
    simp only [Rx,Bool.decide_or,Bool.or_assoc]
   simp only [bne_self_eq_false,cond_false,eP]
   by_cases hp:c.Params < 0∨c.Params > c.Slots∨c.Params > 6∨c.Slots > 16
   ·rw [decide_eq_true hp,if_pos hp];rfl
   ·rw [decide_eq_false hp,if_neg hp,cond_false]
    by_cases hz:c.Instrs.length=0
    ·rw [decide_eq_true hz,if_pos hz];rfl
    ·rw [decide_eq_false hz,if_neg hz,cond_false]
     by_cases hm:1000 < c.Instrs.length
     ·rw [decide_eq_true hm,if_pos hm];rfl
     ·rw [decide_eq_false hm,if_neg hm,cond_false]
      obtain ⟨m,hq⟩:=Amx L c p s hin hlk hL c.Instrs hc.ins 0 0
      rw [Afp L c p s L hI (by omega),hq,Option.bind_some]
      have ew:Bi ((c.Instrs.length:Int) - 1)=((c.Instrs.length - 1:Nat):Int):=by rw [Nv (by omega) (by omega)];omega
      by_cases ha:Y7 (Aip p s c) c.Instrs=0
      ·rw [if_pos ha,ha,Pt]
       simp only [x0,ew,toN]
       rw [if_pos (by omega),if_pos (by omega)]
       have e1:∀(a b:Int),(a != b)= !decide (a=b):=fun _ _=>rfl
       simp only [e1]
       cases decide ((c.Instrs.getD (c.Instrs.length - 1) default).Op=19)<;>cases decide ((c.Instrs.getD (c.Instrs.length - 1) default).Op=4)<;>rfl
      ·rw [if_neg ha,Ox ha];rfl
  ·rw [Ox h0,g6 h0];rfl
end Go.Proofs.YthjhkpgonleelaaGreatDoor.Ev
namespace Go.Proofs.YthjhkpgonleelaaGreatDoor.Ev
open Go An
set_option maxRecDepth 100000
set_option linter.unusedVariables false
set_option linter.unusedSimpArgs false
set_option linter.unnecessarySimpa false
def agP(c:Bu)(r:Ao):Bool:=decide (c.Name=r.Name) && c.Params == (r.Params.length:Int) && decide (r.Body.length=0)
def agL:List Bu→List Ao→Bool
 |c::k,r::m=>agP c r && agL k m
 |_,_=>true
theorem Avx(s:Bk):Agt s=(decide (s.Routines.length=s.Decl.Routines.length) && agL s.Routines s.Decl.Routines):=by
 unfold Agt
 congr 1
 generalize s.Routines=k
 generalize s.Decl.Routines=m
 induction k generalizing m with
 |nil=>cases m<;>rfl
 |cons c k ih=>cases m with
  |nil=>rfl
  |cons r m=>rw [List.zip_cons_cons,List.all_cons,ih,agL];rfl
theorem Aoe(L:Nat)(m:List Ao)(l:List Bu)(s:Bk):∀(k:List Bu) (i:Nat) (v:Bool),i+k.length=m.length→
  ∃j,Hy L m l s k i v=some (bif agL k (m.drop i) then (1,(v,j)) else (0,(false,j))):=by
 intro k
 induction k with
 |nil=>intro i v _;exact ⟨i,rfl⟩
 |cons c k ih=>
  intro i v h
  rw [List.length_cons] at h
  obtain ⟨j,hj⟩:=ih (i+1) v (by omega)
  have hi:i < m.length:=by omega
  rw [Hy,A3c m i hi,if_pos (show (i:Int) < ((m.length:Nat):Int) by omega),hj,toN,agL]
  generalize m.getD i default=r
  have e0:((r.Body.length:Int) == 0)=decide (r.Body.length=0):=by
   by_cases h:r.Body.length=0
   ·rw [h];rfl
   ·rw [decide_eq_false h];exact beq_eq_false_iff_ne.2 (by omega)
  rw [Wv,e0]
  unfold agP
  cases decide (c.Name=r.Name)<;>cases (c.Params == (r.Params.length:Int))<;>cases decide (r.Body.length=0)
  all_goals first|exact ⟨j,rfl⟩|exact ⟨i,rfl⟩
theorem Amn(L:Nat)(s:Bk)(hl:s.Routines.length≤maxLen)(hL:maxLen < L):Jy L s=some (Agt s):=by
 rw [Avx]
 have hic:Qt L s.Routines s.Decl.Routines s=some (decide (s.Routines.length=s.Decl.Routines.length) && agL s.Routines s.Decl.Routines):=by
  simp only [Qt,Aae,Rj,Mv,Rj,Mv,aN,aB,Ahb L s.Decl.Routines s.Routines s L hl (by omega)]
  by_cases h:s.Routines.length=s.Decl.Routines.length
  ·obtain ⟨j,hj⟩:=Aoe L s.Decl.Routines s.Routines s s.Routines 0 false (by omega)
   rw [hj,Option.bind_some,List.drop_zero,decide_eq_true h,show ((s.Routines.length:Int) != (s.Decl.Routines.length:Int))=false by rw [h];simp]
   cases agL s.Routines s.Decl.Routines<;>rfl
  ·rw [decide_eq_false h,show ((s.Routines.length:Int) != (s.Decl.Routines.length:Int))=true from bne_iff_ne.2 (by omega)];rfl
 simp only [Ael,Mw,Jy,Mw,aN,aB,hic,Option.bind_some]
def Anp(l:List D2):List Dx:=l.map fun x=>(⟨x.From,x.To⟩:Dx)
theorem A8u(seen:List D2)(x:D2):((Anp seen).any fun b=>x.From == b.a0 && x.To == b.a1)=seen.any fun y=>y.From == x.From && y.To == x.To:=by
 unfold Anp
 rw [List.any_map]
 congr 1
 funext y
 show (x.From == y.From && x.To == y.To)=_
 rw [Bool.beq_comm (a:=x.From),Bool.beq_comm (a:=x.To)]
theorem Aut(L:Nat)(p:Ad):∀(k:List D2) (i:Nat) (v:Int) (seen:List D2),
  ∃j a b,Dd L p k i v (Anp seen) (tr (Anp seen))=some (if Aok p seen k=0 then (1,(v,(j,a,b))) else (0,(Aok p seen k,(j,a,b)))):=by
 intro k
 induction k with
 |nil=>intro i v seen;exact ⟨i,_,_,rfl⟩
 |cons x k ih=>
  intro i v seen
  obtain ⟨j,a,b,hj⟩:=ih (i+1) v (seen++ [x])
  have hw:Anp (seen++ [x])=Anp seen++ [(⟨x.From,x.To⟩:Dx)]:=by unfold Anp;rw [List.map_append];rfl
  have hsn:=Ah3 (Anp seen) (⟨x.From,x.To⟩:Dx)
  rw [hw] at hj
  have e1:(bif (bif decide ((if x.To < x.From then x.To else x.From) < 0) then true else decide ((if x.To > x.From then x.To else x.From)≥(p.Sites.length:Int))) then true else (x.From == x.To))=decide (x.From < 0∨x.From≥(p.Sites.length:Int)∨x.To < 0∨x.To≥(p.Sites.length:Int)∨x.From=x.To):=by
   rw [Rx,Rx,show (x.From == x.To)=decide (x.From=x.To) from rfl,←Bool.decide_or,←Bool.decide_or]
   refine decide_eq_decide.2 ?_
   split<;>split<;>omega
  have e2:(bif decide (x.Delay < 1) then true else decide (x.Delay > 1000000000))=decide (x.Delay < 1∨x.Delay > 1000000000):=by rw [Rx,←Bool.decide_or]
  rw [Dd,Aok]
  simp only [e1,e2]
  unfold Bjm
  by_cases h1:x.From < 0∨x.From≥(p.Sites.length:Int)∨x.To < 0∨x.To≥(p.Sites.length:Int)∨x.From=x.To
  ·rw [decide_eq_true h1,if_pos (by omega),Ox (by decide)]
   exact ⟨i,_,_,rfl⟩
  ·by_cases h2:x.Delay < 1∨x.Delay > 1000000000
   ·rw [decide_eq_false h1,decide_eq_true h2,if_pos (by omega),Ox (by decide)]
    exact ⟨i,_,_,rfl⟩
   ·rw [decide_eq_false h1,decide_eq_false h2,if_neg (by omega),←A8u]
    simp only [cond_false]
    cases hf:(Anp seen).findIdx? fun b=>x.From == b.a0 && x.To == b.a1 with
    |some n=>
     rw [Aad hf]
     obtain ⟨h3,_⟩:=List.findIdx?_eq_some_iff_getElem.1 hf
     simp only [Ry,Asf h3,cond_true,Bool.not_true]
     refine ⟨i,Anp seen,tr (Anp seen),?_⟩
     rw [show X3 false 4=4 from rfl,Ox (by decide)]
     rfl
    |none=>
     rw [Adj hf]
     simp only [Ry,Bool.not_false]
     rw [hsn,show X3 true 4=0 from rfl,Pt]
     exact ⟨j,a,b,hj⟩
theorem Arn(L:Nat)(p:Ad)(hl:p.Links.length≤maxLen)(hL:maxLen < L):Xf L p=some (Ayx p):=by
 obtain ⟨j,a,b,hj⟩:=Aut L p p.Links 0 0 []
 have hj':Dd L p p.Links 0 0 [] []=_:=hj
 have e32:decide ((p.Links.length:Int) > 32)=decide (32 < p.Links.length):=gtN _ 32
 simp only [Ajy,U5,Qa,Xf,U5,Qa,aN,aB,e32,Akw L p L hl (by omega),hj',Option.bind_some,Ayx]
 by_cases h:32 < p.Links.length
 ·rw [decide_eq_true h,if_pos h];rfl
 ·rw [decide_eq_false h,if_neg h,cond_false]
  by_cases h0:Aok p [] p.Links=0
  ·rw [if_pos h0,x0,h0]
  ·rw [if_neg h0,R4]
structure PG (p:Ad):Prop where
 ok:Zq p
 bk:Mm p≤1048576
theorem PG.site{p:Ad}(h:PG p):∀s∈p.Sites,MG (Af2 p s)∧s.Routines.length≤maxLen∧∀c∈s.Routines,CoG c:=by
 intro s hs
 obtain ⟨hn,⟨hl,hS⟩,hL⟩:=h.ok
 obtain ⟨hD,hR⟩:=hS s hs
 have hb:=h.bk
 have h1:=Sd (g:=Ef) hs
 have h2:Ef s≤1048576:=by unfold Mm at hb;omega
 refine ⟨⟨?_,?_⟩,hR.1,fun c hc=>⟨hR.2 c hc,?_⟩⟩
 ·unfold Agd Af2
  exact ⟨hn,⟨Nat.zero_le _,fun y hy=>by cases hy⟩,⟨by show 1≤maxLen;unfold maxLen;omega,fun y hy=>by rw [List.mem_singleton.1 hy];exact hD⟩,⟨Nat.zero_le _,fun y hy=>by cases hy⟩⟩
 ·unfold Mm at hb
  generalize Er Ef p.Sites=S at h1 hb
  unfold Ef at h1 h2
  unfold Abq Af2
  have e:Er Da [s.Decl]=Da s.Decl:=by show Da s.Decl+0=_;omega
  rw [e]
  show (p.Name.size+1)+((0+1)+((Da s.Decl+1)+(0+1)))+1≤1048576
  omega
 ·have h3:=Sd (g:=Ng) hc
  unfold Ef at h2
  omega
theorem Amu(L:Nat)(p:Ad)(hL:Ts≤L):∀(k:List Bk) (i:Nat) (v:Int) (seen:List ByteArray),(∀s∈k,MG (Af2 p s)∧s.Routines.length≤maxLen)→
  ∃j a b,Eg L p k i v seen (tr seen)=some (if Ajs Kr p seen k=0 then (1,(v,(j,a,b))) else (0,(Ajs Kr p seen k,(j,a,b)))):=by
 intro k
 induction k with
 |nil=>intro i v seen _;exact ⟨i,_,_,rfl⟩
 |cons s k ih=>
  intro i v seen h
  obtain ⟨hM,hR⟩:=h s (by simp)
  obtain ⟨j,a,b,hj⟩:=ih (i+1) v (seen++ [s.Decl.Name]) fun y hy=>h y (by simp [hy])
  have hsn:=Ah3 seen s.Decl.Name
  have hag:Jy L ⟨s.Decl,s.Routines⟩=_:=Amn L s hR (Mb hL)
  have eb:∀x,(s.Decl.Name == x)=decide (x=s.Decl.Name):=fun x=>Ak7 _ _
  rw [Eg,show Oo L ⟨p.Name,[],[s.Decl],[]⟩=_ from Amp L (Af2 p s) hM hL,Option.bind_some,Ajs]
  by_cases h0:Arj Kr (Af2 p s)=0
  ·rw [h0,Pt]
   simp only [bne_self_eq_false,cond_false,hag,Option.bind_some,eb]
   cases hf:seen.findIdx? fun x=>decide (x=s.Decl.Name) with
   |some n=>
    rw [Aad hf]
    obtain ⟨h3,_⟩:=List.findIdx?_eq_some_iff_getElem.1 hf
    simp only [Ry,Asf h3,cond_true,Bool.not_true]
    refine ⟨i,seen,tr seen,?_⟩
    rw [show X3 false 4=4 from rfl,Ox (by decide)]
    rfl
   |none=>
    rw [Adj hf]
    simp only [Ry,Bool.not_false]
    rw [show X3 true 4=0 from rfl,Pt]
    cases Agt s with
    |false=>exact ⟨i,_,_,rfl⟩
    |true=>
     rw [show X3 true 8=0 from rfl,Pt,hsn]
     exact ⟨j,a,b,hj⟩
  ·rw [Ox h0,g6 h0]
   exact ⟨i,_,_,by rw [if_neg h0];rfl⟩
theorem Amw(L:Nat)(s:Int)(p:Ad)(o:Nat×Y6)(hlk:p.Links.length≤maxLen)(hL:Ts≤L)(k:List Bu)(hk:∀c∈k,CoG c)(j:Nat)(v:Int):
  ∃m,I3 L s p o k j v=some (if Y7 (Aoo p s) k=0 then (1,(v,m)) else (0,(Y7 (Aoo p s) k,m))):=
 Ayw (lq:=I3 L s p o) (bd:=fun c=>Mh L p s c) (fun _ _=>rfl) (fun _ _ _ _=>rfl) k j v fun c hc=>Aky L p s c (hk c hc) hlk hL
theorem Amv(L:Nat)(p:Ad)(o:Nat×Y6)(hlk:p.Links.length≤maxLen)(hL:Ts≤L)(hS:∀s∈p.Sites,s.Routines.length≤maxLen∧∀c∈s.Routines,CoG c):
  ∀(k:List Bk) (i:Nat) (v:Int),p.Sites.drop i=k→∃m,I2 L p o k i v=some (if Ah9 p i k=0 then (1,(v,m)) else (0,(Ah9 p i k,m))):=by
 intro k
 induction k with
 |nil=>intro i v _;exact ⟨i,rfl⟩
 |cons s k ih=>
  intro i v hd
  obtain ⟨hi,hg,hd'⟩:=Zh hd
  have hs:s∈p.Sites:=List.mem_of_mem_drop (by rw [hd];simp)
  obtain ⟨h1,h2⟩:=hS s hs
  obtain ⟨m,hm⟩:=Amw L (i:Int) p o hlk hL s.Routines h2 0 v
  obtain ⟨j,hj⟩:=ih (i+1) v hd'
  have hg':(p.Sites.getD (Int.toNat (i:Int)) default)=s:=by rw [toN];exact hg
  rw [I2,Aiu L (i:Int) p o L (by rw [hg'];exact h1) (by rw [hg'];have:=Mb hL;omega),hg',hm,Option.bind_some,Ah9]
  by_cases h0:Y7 (Aoo p (i:Int)) s.Routines=0
  ·rw [if_pos h0,h0,Pt,x0]
   exact ⟨j,hj⟩
  ·rw [if_neg h0,Ox h0,R4]
   exact ⟨i,by rw [if_neg h0]⟩
theorem Aez(L:Nat)(p:Ad)(h:PG p)(hL:Ts≤L):Nk L p=some (Ae1 Kr p):=by
 have hl:=Mb hL
 obtain ⟨hn,⟨hSl,_⟩,⟨hLl,_⟩⟩:=h.ok
 have hS:=h.site
 have hnm:p.Name.size < L:=Nat.lt_of_le_of_lt hn hl
 have e0:((p.Sites.length:Int) == 0)=decide (p.Sites.length=0):=by
  by_cases h:p.Sites.length=0
  ·rw [h];rfl
  ·rw [decide_eq_false h];exact beq_eq_false_iff_ne.2 (by omega)
 have e16:decide ((p.Sites.length:Int) > 16)=decide (16 < p.Sites.length):=gtN _ 16
 simp only [Agf,S7,S2,S9,N6,Nk,S7,S2,S9,N6,aN,aB,Km L p.Name hn hnm,Option.bind_some,e0,e16]
 unfold Ae1
 by_cases h0:Ni p.Name=0
 ·rw [h0,Pt]
  simp only [bne_self_eq_false,cond_false]
  by_cases hz:p.Sites.length=0
  ·rw [decide_eq_true hz,if_pos hz];rfl
  ·rw [decide_eq_false hz,if_neg hz,cond_false]
   by_cases hm:16 < p.Sites.length
   ·rw [decide_eq_true hm,if_pos hm];rfl
   ·rw [decide_eq_false hm,if_neg hm,cond_false]
    obtain ⟨j,a,b,hj⟩:=Amu L p hL p.Sites 0 0 [] fun s hs=>⟨(hS s hs).1,(hS s hs).2.1⟩
    have hj':Eg L p p.Sites 0 0 [] []=_:=hj
    rw [Ais L p L hSl (by omega),hj',Option.bind_some]
    by_cases hs:Ajs Kr p [] p.Sites=0
    ·rw [if_pos hs,hs,Pt]
     simp only [x0]
     rw [show Xf L ⟨p.Name,p.Sites,p.Links⟩=_ from Arn L p hLl hl,Option.bind_some]
     by_cases ha:Ayx p=0
     ·rw [ha,Pt]
      simp only [bne_self_eq_false,cond_false]
      obtain ⟨m,hm⟩:=Amv L p (1,(0,(j,a,b))) hLl hL (fun s hs=>⟨(hS s hs).2.1,(hS s hs).2.2⟩) p.Sites 0 0 rfl
      rw [Ait L p (1,(0,(j,a,b))) L hSl (by omega),hm,Option.bind_some]
      by_cases hc:Ah9 p 0 p.Sites=0
      ·rw [if_pos hc,hc,x0]
      ·rw [if_neg hc,R4]
     ·rw [Ox ha,g6 ha];rfl
    ·rw [if_neg hs,Ox hs];rfl
 ·rw [Ox h0,g6 h0];rfl
end Go.Proofs.YthjhkpgonleelaaGreatDoor.Ev
