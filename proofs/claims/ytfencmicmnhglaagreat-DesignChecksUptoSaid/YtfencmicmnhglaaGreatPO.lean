/-  Chapter 14, plainly: statements, in the program and in the reference. -/
import Derived.Test.YtfencmicmnhglaaGreatQA
import Derived.Test.YtfencmicmnhglaaGreatPM
namespace Go.Proofs.YtfencmicmnhglaaGreat.Ev
open Go An
set_option maxRecDepth 100000
set_option linter.unusedVariables false
set_option linter.unusedSimpArgs false
set_option linter.unnecessarySimpa false
theorem Bh3(L:Nat)(v:Ar)(s:Ac)(hv:Ep v)(hs:Wu v.Site 1099511627776)(h:SB L s):Ati L v s=some (if s.Op=1 then Bx9 v s else Asi v s.Name (decide (Hi v.Site s.Of=An4)) [1,3]):=by
 have hM:=Bd
 have hL:=h.lt
 have h2:=hv.2.1.1
 have h4:=hv.2.2.len.1
 obtain ⟨b1,b2,b3,b4⟩:=h.de
 have hw:∀t,Iy L v s.E t t=some (Qe v s.E [t]):=fun t=>by rw [Akc L v s.E t t hv hs h.e b1,Bsh]
 simp only [Ayt,Ati,aN,aB,Ab.cp_eq,Ap1 L _ s.Name h2 (by omega),Ami L _ s.Name h4 (by omega),Aln L _ s.Of hs hL,Ah6,hw,Ea,Option.bind_some,Bx9,Asi]
 by_cases h1:s.Op=1
 ·simp only [h1,beq_self_eq_true,cond_true,if_true]
  cases Atu v.Locals s.Name with
  |some t=>rfl
  |none=>
   cases A0u v.Site.Vars s.Name with
   |some t=>rfl
   |none=>rfl
 ·simp only [h1,beq_false_of_ne h1,cond_false,if_false]
  cases Atu v.Locals s.Name with
  |none=>rfl
  |some t=>
   simp only [o2,Bool.not_true,cond_false,Option.bind_some,An4,List.any_cons,List.any_nil,Axx,Bool.or_false]
   by_cases hk:Hi v.Site s.Of=⟨#[115,116,114,101,97,109]⟩
   ·cases hm:(t == 1 || t == 3)<;>simp [hk,hm]
   ·simp [hk]
theorem Bd7(L:Nat)(m:Ad)(v:Ar)(s:Ac)(hm:MB L m v)(h:SB L s):Ak1 L m v s=some (if s.Op=14 then A78 v s else Bin m v s):=by
 have hM:=Bd
 have h1:=hm.sites
 have h2:=hm.links
 have hL:=hm.fuel
 have ha:∀ps,Ad5 L v s ps=some (A5r v ps s):=fun ps=>Bh1 L v s ps hm.ev hm.st h
 simp only [Arl,Ak1,aN,aB,Ac.cp_eq,Akb L v.Site s.Name hm.st hL,A1u L m s.Of (by omega) hL,Bhw L m _ _ (show m.Links.length≤maxLen by omega) hL,ha,Option.bind_some,Bin,A78,Bij,Ag5,A12,Tt,Abr]
 by_cases h14:s.Op=14
 ·simp only [h14,beq_self_eq_true,cond_true,if_true]
  cases hg:v.Site.Routines.findIdx? (fun x=>decide (x.Name=s.Name)) with
  |none=>rfl
  |some j=>
   have hj:=Amb hg
   simp only [Option.isNone_some,cond_false,Ow,nn,if_true,Ip hj,toN,Option.map_some]
 ·simp only [h14,beq_false_of_ne h14,cond_false,if_false]
  cases hf:m.Sites.findIdx? (fun x=>decide (x.Name=s.Of)) with
  |none=>rfl
  |some i=>
   have hi:=Amb hf
   have hd:Wu (m.Sites.getD i default) 1099511627776:=hm.each _ (by rw [Gs _ i hi];exact List.getElem_mem hi)
   simp only [Option.isNone_some,cond_false,Ow,nn,if_true,Ip hi,toN,Option.map_some,Akb L _ s.Name hd hL,Option.bind_some,Tt,Abr]
   cases hg:(m.Sites.getD i default).Routines.findIdx? (fun x=>decide (x.Name=s.Name)) with
   |none=>rfl
   |some j=>
    have hj:=Amb hg
    simp only [Option.isNone_some,cond_false,Ow,nn,if_true,Ip hj,toN,Option.map_some]
    cases (A6j m v.Site.Name s.Of).2<;>rfl
def Va(op:Int):ByteArray:=
 if op=6∨op=7 then H4 else if op=8∨op=9 then I2 else if op=10 then Apu else if op=11∨op=12 then Tl else if op=15 then Ag7 else if op=16 then Aj6 else if op=17 then Tk else ⟨#[]⟩
theorem Bd8(L:Nat)(op:Int):Ak2 L op=some (Va op):=by
 simp only [Arm,Ak2,aN,aB]
 rcases As9 op with rfl|rfl|rfl|rfl|rfl|rfl|rfl|rfl|rfl|rfl|rfl|rfl|rfl|rfl|rfl|rfl|rfl|rfl|h|h
 case inr.inr.inr.inr.inr.inr.inr.inr.inr.inr.inr.inr.inr.inr.inr.inr.inr.inr.inl=>
  have h':op < 1∨18 < op:= .inl h
  unfold Va
  repeat rw [if_neg (by omega)]
  simp only [cond_false,Ay h' 6 (by decide) (by decide),Ay h' 7 (by decide) (by decide),Ay h' 8 (by decide) (by decide),Ay h' 9 (by decide) (by decide),Ay h' 10 (by decide) (by decide),Ay h' 11 (by decide) (by decide),Ay h' 12 (by decide) (by decide),Ay h' 15 (by decide) (by decide),Ay h' 16 (by decide) (by decide),Ay h' 17 (by decide) (by decide)]
 case inr.inr.inr.inr.inr.inr.inr.inr.inr.inr.inr.inr.inr.inr.inr.inr.inr.inr.inr=>
  have h':op < 1∨18 < op:= .inr h
  unfold Va
  repeat rw [if_neg (by omega)]
  simp only [cond_false,Ay h' 6 (by decide) (by decide),Ay h' 7 (by decide) (by decide),Ay h' 8 (by decide) (by decide),Ay h' 9 (by decide) (by decide),Ay h' 10 (by decide) (by decide),Ay h' 11 (by decide) (by decide),Ay h' 12 (by decide) (by decide),Ay h' 15 (by decide) (by decide),Ay h' 16 (by decide) (by decide),Ay h' 17 (by decide) (by decide)]
 all_goals rfl
theorem Axh(v:Ar)(e:Ab):Abs v [e]=Qe v e [1]:=by
 unfold Abs Abs
 by_cases h:Qe v e [1]=0<;>simp [h]
theorem A1r(v:Ar)(e f:Ab):Abs v [e,f]=if Qe v e [1]≠0 then Qe v e [1] else Qe v f [1]:=by
 rw [Abs,Axh]
theorem Cbr:Va 1=⟨#[]⟩:=rfl
theorem Cbs:Va 2=⟨#[]⟩:=rfl
theorem Cbt:Va 3=⟨#[]⟩:=rfl
theorem Cbu:Va 4=⟨#[]⟩:=rfl
theorem Cbv:Va 5=⟨#[]⟩:=rfl
theorem Cbw:Va 6=H4:=rfl
theorem Cbx:Va 7=H4:=rfl
theorem Cby:Va 8=I2:=rfl
theorem Bdl:Va 9=I2:=rfl
theorem B3s:Va 10=Apu:=rfl
theorem B3t:Va 11=Tl:=rfl
theorem B3u:Va 12=Tl:=rfl
theorem B3v:Va 13=⟨#[]⟩:=rfl
theorem B3w:Va 14=⟨#[]⟩:=rfl
theorem B3x:Va 15=Ag7:=rfl
theorem B3y:Va 16=Aj6:=rfl
theorem B3z:Va 17=Tk:=rfl
theorem B30:Va 18=⟨#[]⟩:=rfl
theorem Bxn:(Apu=(⟨#[]⟩:ByteArray))=False:=eq_false (by decide)
theorem Bth:(Tk=(⟨#[]⟩:ByteArray))=False:=eq_false (by decide)
theorem Bti:(Aj6=(⟨#[]⟩:ByteArray))=False:=eq_false (by decide)
theorem Ba4:(Tl=(⟨#[]⟩:ByteArray))=False:=eq_false (by decide)
theorem Axi:(H4=(⟨#[]⟩:ByteArray))=False:=eq_false (by decide)
theorem An3:(I2=(⟨#[]⟩:ByteArray))=False:=eq_false (by decide)
theorem Btj:(Ag7=(⟨#[]⟩:ByteArray))=False:=eq_false (by decide)
theorem Bh4(L:Nat)(m:Ad)(v:Ar)(s:Ac)(hm:MB L m v)(h:SB L s):Ajl L m v s=some (A9j m v s):=by
 have hM:=Bd
 have hL:=hm.fuel
 have hv:=hm.ev
 have h2:=hv.2.1.1
 obtain ⟨b1,b2,b3,b4⟩:=h.de
 have w:∀a b,Iy L v s.E a b=some (Qe v s.E [a,b]):=fun a b=>Akc L v s.E a b hv hm.st h.e b1
 have wf:∀a b,Iy L v s.F a b=some (Qe v s.F [a,b]):=fun a b=>Akc L v s.F a b hv hm.st h.f b2
 simp only [Agi,sx_R14_stmt_3,Amx,sx_R14_stmt_2,Amw,sx_R14_stmt_1,Amv,sx_R14_stmt_0,A5k,Ajl,aN,aB,Ac.cp_eq,Ab.cp_eq,Bd8,Aln L _ s.Name hm.st hL,Bh3 L v s hv hm.st h,Bd7 L m v s hm h,Ap1 L _ s.Of h2 (by omega),w,wf,Bsh,Ea,Option.bind_some,D5,D3]
 unfold A9j
 rcases As9 s.Op with e|e|e|e|e|e|e|e|e|e|e|e|e|e|e|e|e|e|e|e
 case inr.inr.inr.inr.inr.inr.inr.inr.inr.inr.inr.inr.inr.inr.inr.inr.inr.inr.inl=>
  have h':s.Op < 1∨18 < s.Op:= .inl e
  have hk:Va s.Op=⟨#[]⟩:=by unfold Va;repeat rw [if_neg (by omega)]
  repeat rw [if_neg (by omega)]
  simp [hk,Ay h' 1 (by decide) (by decide),Ay h' 2 (by decide) (by decide),Ay h' 3 (by decide) (by decide),Ay h' 4 (by decide) (by decide),Ay h' 5 (by decide) (by decide),Ay h' 6 (by decide) (by decide),Ay h' 7 (by decide) (by decide),Ay h' 8 (by decide) (by decide),Ay h' 9 (by decide) (by decide),Ay h' 10 (by decide) (by decide),Ay h' 11 (by decide) (by decide),Ay h' 12 (by decide) (by decide),Ay h' 13 (by decide) (by decide),Ay h' 14 (by decide) (by decide),Ay h' 15 (by decide) (by decide),Ay h' 16 (by decide) (by decide),Ay h' 17 (by decide) (by decide)]
 case inr.inr.inr.inr.inr.inr.inr.inr.inr.inr.inr.inr.inr.inr.inr.inr.inr.inr.inr=>
  have h':s.Op < 1∨18 < s.Op:= .inr e
  have hk:Va s.Op=⟨#[]⟩:=by unfold Va;repeat rw [if_neg (by omega)]
  repeat rw [if_neg (by omega)]
  simp [hk,Ay h' 1 (by decide) (by decide),Ay h' 2 (by decide) (by decide),Ay h' 3 (by decide) (by decide),Ay h' 4 (by decide) (by decide),Ay h' 5 (by decide) (by decide),Ay h' 6 (by decide) (by decide),Ay h' 7 (by decide) (by decide),Ay h' 8 (by decide) (by decide),Ay h' 9 (by decide) (by decide),Ay h' 10 (by decide) (by decide),Ay h' 11 (by decide) (by decide),Ay h' 12 (by decide) (by decide),Ay h' 13 (by decide) (by decide),Ay h' 14 (by decide) (by decide),Ay h' 15 (by decide) (by decide),Ay h' 16 (by decide) (by decide),Ay h' 17 (by decide) (by decide)]
 all_goals clear w wf h hm
 ·simp [e,Cbr]
 ·simp [e,Cbs]
 ·simp [e,Cbt]
 ·simp [e,Cbu]
 ·simp [e,Cbv]
 ·by_cases hk:Hi v.Site s.Name=H4<;>simp [e,Cbw,Axi,hk,S0,Axh,A1r,Abs]<;>grind
 ·by_cases hk:Hi v.Site s.Name=H4<;>simp [e,Cbx,Axi,hk,S0,Axh,A1r,Abs]
 ·by_cases hk:Hi v.Site s.Name=I2<;>simp [e,Cby,An3,hk,S0,Axh,A1r,Abs]
 ·cases hl:Atu v.Locals s.Of with
  |none=>by_cases hk:Hi v.Site s.Name=I2<;>simp [e,Bdl,An3,hk,Asi,o2,hl]
  |some t=>
   by_cases hk:Hi v.Site s.Name=I2
   ·by_cases ht:t=1
    ·simp [e,Bdl,An3,hk,Asi,o2,hl,ht]
    ·have ht':=beq_false_of_ne ht
     simp [e,Bdl,An3,hk,Asi,o2,hl,ht,ht',bne]
   ·simp [e,Bdl,An3,hk,Asi,o2,hl]
 ·by_cases hk:Hi v.Site s.Name=Apu<;>simp [e,B3s,Bxn,hk,S0,Axh,A1r,Abs]
 ·by_cases hk:Hi v.Site s.Name=Tl<;>simp [e,B3t,Ba4,hk,S0,Axh,A1r,Abs]
 ·by_cases hk:Hi v.Site s.Name=Tl<;>simp [e,B3u,Ba4,hk,S0,Axh,A1r,Abs]
 ·simp [e,B3v]
 ·simp [e,B3w]
 ·by_cases hk:Hi v.Site s.Name=Ag7<;>simp [e,B3x,Btj,hk]
 ·by_cases hk:Hi v.Site s.Name=Aj6<;>simp [e,B3y,Bti,hk,S0,Axh,A1r,Abs]
 ·by_cases hk:Hi v.Site s.Name=Tk<;>simp [e,B3z,Bth,hk,S0,Axh,A1r,Abs]
 ·simp [e,B30]
mutual
def tyS(m:Ad)(v:Ar):Ac→Int
 | .mk a b c d e f g h i j=>if A9j m v (.mk a b c d e f g h i j)≠0 then A9j m v (.mk a b c d e f g h i j) else if Ady m v i≠0 then Ady m v i else Ady m v j
def Ady(m:Ad)(v:Ar):List Ac→Int
 | []=>0
 |x::k=>if tyS m v x≠0 then tyS m v x else Ady m v k
end
theorem By7(m:Ad)(v:Ar)(s:Ac):tyS m v s=if A9j m v s≠0 then A9j m v s else if Ady m v s.Body≠0 then Ady m v s.Body else Ady m v s.Else:=by cases s;rw [tyS];rfl
theorem MB.mono{L L':Nat}{m:Ad}{v:Ar}(h:MB L m v)(hl:maxLen < L'):MB L' m v:=⟨hl,h.ev,h.st,h.sites,h.links,h.each⟩
theorem An7(rec:Am→List Ac→Option Int)(L:Nat)(r:Am)(a0:List Ac)(hm:MB L r.u_m r.u_env):∀(k:List Ac) (i:Nat) (v:Int),(∀x∈k,SB L x∧rec r x.Body=some (Ady r.u_m r.u_env x.Body)∧rec r x.Else=some (Ady r.u_m r.u_env x.Else))→∃j,E5 rec L r a0 k i v=some (bif Ady r.u_m r.u_env k != 0 then (0,(Ady r.u_m r.u_env k,j)) else (1,(v,j))):=by
 intro k
 induction k with
 |nil=>intro i v _;exact ⟨i,rfl⟩
 |cons x k ih=>
  intro i v h
  obtain ⟨h0,h1,h2⟩:=h x (by simp)
  obtain ⟨j,hj⟩:=ih (i+1) v fun y hy=>h y (by simp [hy])
  rw [E5]
  simp only [Aqv L r x hm h0,h1,h2,hj,Option.bind_some,Ady,By7]
  by_cases e1:A9j r.u_m r.u_env x=0
  ·by_cases e2:Ady r.u_m r.u_env x.Body=0
   ·by_cases e3:Ady r.u_m r.u_env x.Else=0
    ·exact ⟨j,by simp [e1,e2,e3]⟩
    ·exact ⟨i,by simp [e1,e2,e3,Uy e3]⟩
   ·exact ⟨i,by simp [e1,e2,Uy e2]⟩
  ·exact ⟨i,by simp [e1,Uy e1]⟩
theorem Ap4{l:List Ac}(hl:∀y∈l,B6 y)(r:Am)(hm:MB (maxLen+1) r.u_m r.u_env):∀L,Fu L l→Ec L r l=some (Ady r.u_m r.u_env l):=by
 refine Ac4 (M:=fun l=>∀L,Fu L l→Ec L r l=some (Ady r.u_m r.u_env l)) ?_ hl
 intro l ih L hF
 obtain ⟨L,rfl⟩:=hF.pos
 obtain ⟨n1,n2,n3⟩:=hF.len
 have hm':MB L r.u_m r.u_env:=hm.mono (by obtain ⟨f1,f2⟩:=hF;omega)
 obtain ⟨j,hj⟩:=An7 (Ec L) L r l hm' l 0 0 fun x hx=>⟨hF.sb hx (ih x hx).1,(ih x hx).2.1 L (hF.kid hx).1,(ih x hx).2.2 L (hF.kid hx).2⟩
 simp only [Ad1,Ie,Vz,Ec,Ie,aN,aB,Akr _ L r l L n1 n2,hj,Option.bind_some]
 by_cases h:Ady r.u_m r.u_env l=0
 ·simp [h,Qo]
 ·simp [Uy h,Hb]
theorem A90(rec:Ad→Ar→List Ac→Option Int)(L:Nat)(m:Ad)(w:Ar)(a0:List Ac)(hm:MB L m w):∀(k:List Ac) (i:Nat) (v:Int),(∀x∈k,SB L x∧rec m w x.Body=some (Ady m w x.Body)∧rec m w x.Else=some (Ady m w x.Else))→∃j,Ib rec L a0 m w k i v=some (bif Ady m w k != 0 then (0,(Ady m w k,j)) else (1,(v,j))):=by
 intro k
 induction k with
 |nil=>intro i v _;exact ⟨i,rfl⟩
 |cons x k ih=>
  intro i v h
  obtain ⟨h0,h1,h2⟩:=h x (by simp)
  obtain ⟨j,hj⟩:=ih (i+1) v fun y hy=>h y (by simp [hy])
  rw [Ib]
  simp only [Bh4 L m w x hm h0,h1,h2,hj,Option.bind_some,Ady,By7]
  by_cases e1:A9j m w x=0
  ·by_cases e2:Ady m w x.Body=0
   ·by_cases e3:Ady m w x.Else=0
    ·exact ⟨j,by simp [e1,e2,e3]⟩
    ·exact ⟨i,by simp [e1,e2,e3,Uy e3]⟩
   ·exact ⟨i,by simp [e1,e2,Uy e2,beq_false_of_ne e2]⟩
  ·exact ⟨i,by simp [e1,Uy e1,beq_false_of_ne e1]⟩
theorem Bd9{l:List Ac}(hl:∀y∈l,B6 y)(m:Ad)(w:Ar)(hm:MB (maxLen+1) m w):∀L,Fu L l→Rf L m w l=some (Ady m w l):=by
 refine Ac4 (M:=fun l=>∀L,Fu L l→Rf L m w l=some (Ady m w l)) ?_ hl
 intro l ih L hF
 obtain ⟨L,rfl⟩:=hF.pos
 obtain ⟨n1,n2,n3⟩:=hF.len
 have hm':MB L m w:=hm.mono (by obtain ⟨f1,f2⟩:=hF;omega)
 obtain ⟨j,hj⟩:=A90 (Rf L) L m w l hm' l 0 0 fun x hx=>⟨hF.sb hx (ih x hx).1,(ih x hx).2.1 L (hF.kid hx).1,(ih x hx).2.2 L (hF.kid hx).2⟩
 simp only [A1b,X1,Aq2,Rf,X1,aN,aB,A24 _ L l m w L n1 n2,hj,Option.bind_some]
 by_cases h:Ady m w l=0
 ·simp [h,Qo]
 ·simp [Uy h,Hb]
def A8d(m:Ad)(site:Int)(locals:List Ap)(l:List Ac):Int:=
 if Amo l≠0 then Amo l else if site < 0∨(m.Sites.length:Int)≤site then 2 else Ady m ⟨m.Params,locals,m.Sites.getD site.toNat default⟩ l
theorem Bhm{m:Ad}(hb:Ih m≤1048576):m.Sites.length≤1048576∧m.Links.length≤1048576∧∀d∈m.Sites,Df d+Dl Ji m.Params+4≤Ih m:=by
 unfold Ih at*
 have h1:m.Sites.length≤Dl Df m.Sites:=Jb fun x=>by unfold Df;omega
 have h2:m.Links.length≤Dl Ug m.Links:=Jb fun x=>by unfold Ug;omega
 refine ⟨by omega,by omega,fun d hd=> ?_⟩
 have:=An9 (g:=Df) hd
 omega
theorem Bhl{m:Ad}(ho:Yj m)(hb:Ih m≤1048576){locals:List Ap}(hl:locals.length≤maxLen∧∀y∈locals,Nx y){i:Nat}(hi:i < m.Sites.length):MB (maxLen+1) m ⟨m.Params,locals,m.Sites.getD i default⟩:=by
 obtain ⟨s1,s2,s3⟩:=Bhm hb
 have each:∀d∈m.Sites,Wu d 1099511627776:=fun d hd=>(A6i d).mono (by have:=s3 d hd;omega)
 have hd:m.Sites.getD i default∈m.Sites:=by rw [Gs _ i hi];exact List.getElem_mem hi
 exact ⟨by omega,⟨ho.2.1,hl,ho.2.2.1.2 _ hd⟩,each _ hd,by omega,by omega,each⟩
theorem A3f{m:Ad}(ho:Yj m)(hb:Ih m≤1048576){locals:List Ap}(hc:locals.length≤maxLen∧∀y∈locals,Nx y)(site:Int){l:List Ac}(hl:∀y∈l,B6 y)(L:Nat)(hF:Fu L l):Tc L m site locals l=some (A8d m site locals l):=by
 simp only [Ajt,Tc,aN,aB,Auo hl L hF,Option.bind_some,Kn,A8d]
 by_cases h0:Amo l=0
 ·simp only [h0,bne_self_eq_false,cond_false,ne_eq,not_true_eq_false,if_false]
  by_cases h1:site < 0∨(m.Sites.length:Int)≤site
  ·have:(decide (site < 0) || decide (site≥(m.Sites.length:Int)))=true:=by rcases h1 with h|h<;>simp [h]
   simp only [this,cond_true,if_pos h1]
  ·have h2:¬site < 0:=fun h=>h1 (.inl h)
   have h3:¬(m.Sites.length:Int)≤site:=fun h=>h1 (.inr h)
   have:(decide (site < 0) || decide (site≥(m.Sites.length:Int)))=false:=by simp;omega
   simp only [this,cond_false,if_neg h1]
   rw [ifp (by omega),ifp (by omega)]
   rw [Ap4 hl ⟨m,site,⟨m.Params,locals,m.Sites.getD site.toNat default⟩⟩ (Bhl ho hb hc (by omega)) L hF,Option.bind_some]
 ·simp only [Uy h0,cond_true,if_pos h0]
theorem Bd6{m:Ad}(ho:Yj m)(hb:Ih m≤1048576){locals:List Ap}(hc:locals.length≤maxLen∧∀y∈locals,Nx y)(site:Int){l:List Ac}(hl:∀y∈l,B6 y)(L:Nat)(hF:Fu L l):Agv L m site locals l=some (A8d m site locals l):=by
 simp only [Ark,Agv,aN,aB,Ax2 hl L hF,Option.bind_some,Kn,A8d]
 by_cases h0:Amo l=0
 ·simp only [h0,bne_self_eq_false,cond_false,ne_eq,not_true_eq_false,if_false]
  by_cases h1:site < 0∨(m.Sites.length:Int)≤site
  ·have:(decide (site < 0) || decide (site≥(m.Sites.length:Int)))=true:=by rcases h1 with h|h<;>simp [h]
   simp only [this,cond_true,if_pos h1]
  ·have h2:¬site < 0:=fun h=>h1 (.inl h)
   have h3:¬(m.Sites.length:Int)≤site:=fun h=>h1 (.inr h)
   have:(decide (site < 0) || decide (site≥(m.Sites.length:Int)))=false:=by simp;omega
   simp only [this,cond_false,if_neg h1]
   rw [ifp (by omega),ifp (by omega)]
   rw [Bd9 hl m ⟨m.Params,locals,m.Sites.getD site.toNat default⟩ (Bhl ho hb hc (by omega)) L hF,Option.bind_some]
 ·simp only [Uy h0,cond_true,if_pos h0]
end Go.Proofs.YtfencmicmnhglaaGreat.Ev
