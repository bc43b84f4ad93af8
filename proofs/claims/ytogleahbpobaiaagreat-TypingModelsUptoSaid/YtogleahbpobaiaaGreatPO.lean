/-  Chapter 14, plainly: statements, in the program and in the reference. -/
import Derived.Test.YtogleahbpobaiaaGreatQA
import Derived.Test.YtogleahbpobaiaaGreatPM
namespace Go.Proofs.YtogleahbpobaiaaGreat.Ev
open Go An
set_option maxRecDepth 100000
set_option linter.unusedVariables false
set_option linter.unusedSimpArgs false
set_option linter.unnecessarySimpa false
theorem Beu(L:Nat)(v:Aq)(s:Ac)(hv:Ec v)(hs:U9 v.Site 1099511627776)(h:SB L s):Arq L v s=some (if s.Op=1 then Bs4 v s else Aqs v s.Name (decide (Gf v.Site s.Of=Amd)) [1,3]):=by
 have hM:=Bd
 have hL:=h.lt
 have h2:=hv.2.1.1
 have h4:=hv.2.2.len.1
 obtain ⟨b1,b2,b3,b4⟩:=h.de
 have hw:∀t,Ij L v s.E t t=some (Oy v s.E [t]):=fun t=>by rw [Aix L v s.E t t hv hs h.e b1,Bm2]
 simp only [Aws,Arq,aN,aB,Ab.cp_eq,An9 L _ s.Name h2 (by omega),Aku L _ s.Name h4 (by omega),Aj5 L _ s.Of hs hL,Agp,hw,Em,Option.bind_some,Bs4,Aqs]
 by_cases h1:s.Op=1
 ·simp only [h1,beq_self_eq_true,cond_true,if_true]
  cases Ar2 v.Locals s.Name with
  |some t=>rfl
  |none=>
   cases A6y v.Site.Vars s.Name with
   |some t=>rfl
   |none=>rfl
 ·simp only [h1,beq_false_of_ne h1,cond_false,if_false]
  cases Ar2 v.Locals s.Name with
  |none=>rfl
  |some t=>
   simp only [o2,Bool.not_true,cond_false,Option.bind_some,Amd,List.any_cons,List.any_nil,Avx,Bool.or_false]
   by_cases hk:Gf v.Site s.Of=⟨#[115,116,114,101,97,109]⟩
   ·cases hm:(t == 1 || t == 3)<;>simp [hk,hm]
   ·simp [hk]
theorem Ba5(L:Nat)(m:Ad)(v:Aq)(s:Ac)(hm:MB L m v)(h:SB L s):Ajl L m v s=some (if s.Op=14 then A45 v s else Bfd m v s):=by
 have hM:=Bd
 have h1:=hm.sites
 have h2:=hm.links
 have hL:=hm.fuel
 have ha:∀ps,Ack L v s ps=some (A2v v ps s):=fun ps=>Bes L v s ps hm.ev hm.st h
 simp only [Apv,Ajl,aN,aB,Ac.cp_eq,Aiw L v.Site s.Name hm.st hL,Azl L m s.Of (by omega) hL,Ben L m _ _ (show m.Links.length≤maxLen by omega) hL,ha,Option.bind_some,Bfd,A45,Bfa,Aii,Azs,Sd,y5]
 by_cases h14:s.Op=14
 ·simp only [h14,beq_self_eq_true,cond_true,if_true]
  cases hg:v.Site.Routines.findIdx? (fun x=>decide (x.Name=s.Name)) with
  |none=>rfl
  |some j=>
   have hj:=Any hg
   simp only [Option.isNone_some,cond_false,Rq,nn,if_true,Ky hj,Ix,Option.map_some]
 ·simp only [h14,beq_false_of_ne h14,cond_false,if_false]
  cases hf:m.Sites.findIdx? (fun x=>decide (x.Name=s.Of)) with
  |none=>rfl
  |some i=>
   have hi:=Any hf
   have hd:U9 (m.Sites.getD i default) 1099511627776:=hm.each _ (by rw [Hk _ i hi];exact List.getElem_mem hi)
   simp only [Option.isNone_some,cond_false,Rq,nn,if_true,Ky hi,Ix,Option.map_some,Aiw L _ s.Name hd hL,Option.bind_some,Sd,y5]
   cases hg:(m.Sites.getD i default).Routines.findIdx? (fun x=>decide (x.Name=s.Name)) with
   |none=>rfl
   |some j=>
    have hj:=Any hg
    simp only [Option.isNone_some,cond_false,Rq,nn,if_true,Ky hj,Ix,Option.map_some]
    cases (A3m m v.Site.Name s.Of).2<;>rfl
def Tu(op:Int):ByteArray:=
 if op=6∨op=7 then Hl else if op=8∨op=9 then Im else if op=10 then An0 else if op=11∨op=12 then R7 else if op=15 then Afs else if op=16 then Aio else if op=17 then R6 else ⟨#[]⟩
theorem Ba6(L:Nat)(op:Int):Ajm L op=some (Tu op):=by
 simp only [Apw,Ajm,aN,aB]
 rcases Arh op with rfl|rfl|rfl|rfl|rfl|rfl|rfl|rfl|rfl|rfl|rfl|rfl|rfl|rfl|rfl|rfl|rfl|rfl|h|h
 case inr.inr.inr.inr.inr.inr.inr.inr.inr.inr.inr.inr.inr.inr.inr.inr.inr.inr.inl=>
  have h':op < 1∨18 < op:= .inl h
  unfold Tu
  repeat rw [if_neg (by omega)]
  simp only [cond_false,Av h' 6 (by decide) (by decide),Av h' 7 (by decide) (by decide),Av h' 8 (by decide) (by decide),Av h' 9 (by decide) (by decide),Av h' 10 (by decide) (by decide),Av h' 11 (by decide) (by decide),Av h' 12 (by decide) (by decide),Av h' 15 (by decide) (by decide),Av h' 16 (by decide) (by decide),Av h' 17 (by decide) (by decide)]
 case inr.inr.inr.inr.inr.inr.inr.inr.inr.inr.inr.inr.inr.inr.inr.inr.inr.inr.inr=>
  have h':op < 1∨18 < op:= .inr h
  unfold Tu
  repeat rw [if_neg (by omega)]
  simp only [cond_false,Av h' 6 (by decide) (by decide),Av h' 7 (by decide) (by decide),Av h' 8 (by decide) (by decide),Av h' 9 (by decide) (by decide),Av h' 10 (by decide) (by decide),Av h' 11 (by decide) (by decide),Av h' 12 (by decide) (by decide),Av h' 15 (by decide) (by decide),Av h' 16 (by decide) (by decide),Av h' 17 (by decide) (by decide)]
 all_goals rfl
theorem Avh(v:Aq)(e:Ab):y6 v [e]=Oy v e [1]:=by
 unfold y6 y6
 by_cases h:Oy v e [1]=0<;>simp [h]
theorem Azg(v:Aq)(e f:Ab):y6 v [e,f]=if Oy v e [1]≠0 then Oy v e [1] else Oy v f [1]:=by
 rw [y6,Avh]
theorem B5r:Tu 1=⟨#[]⟩:=rfl
theorem B5s:Tu 2=⟨#[]⟩:=rfl
theorem B5t:Tu 3=⟨#[]⟩:=rfl
theorem B5u:Tu 4=⟨#[]⟩:=rfl
theorem B5v:Tu 5=⟨#[]⟩:=rfl
theorem B5w:Tu 6=Hl:=rfl
theorem B5x:Tu 7=Hl:=rfl
theorem B5y:Tu 8=Im:=rfl
theorem A98:Tu 9=Im:=rfl
theorem Bx3:Tu 10=An0:=rfl
theorem Bx4:Tu 11=R7:=rfl
theorem Bx5:Tu 12=R7:=rfl
theorem Bx6:Tu 13=⟨#[]⟩:=rfl
theorem Bx7:Tu 14=⟨#[]⟩:=rfl
theorem Bx8:Tu 15=Afs:=rfl
theorem Bx9:Tu 16=Aio:=rfl
theorem Bya:Tu 17=R6:=rfl
theorem Byb:Tu 18=⟨#[]⟩:=rfl
theorem Bsd:(An0=(⟨#[]⟩:ByteArray))=False:=eq_false (by decide)
theorem Bny:(R6=(⟨#[]⟩:ByteArray))=False:=eq_false (by decide)
theorem Bnz:(Aio=(⟨#[]⟩:ByteArray))=False:=eq_false (by decide)
theorem A7v:(R7=(⟨#[]⟩:ByteArray))=False:=eq_false (by decide)
theorem Avi:(Hl=(⟨#[]⟩:ByteArray))=False:=eq_false (by decide)
theorem Amc:(Im=(⟨#[]⟩:ByteArray))=False:=eq_false (by decide)
theorem Bn0:(Afs=(⟨#[]⟩:ByteArray))=False:=eq_false (by decide)
theorem Bev(L:Nat)(m:Ad)(v:Aq)(s:Ac)(hm:MB L m v)(h:SB L s):Ah2 L m v s=some (A6f m v s):=by
 have hM:=Bd
 have hL:=hm.fuel
 have hv:=hm.ev
 have h2:=hv.2.1.1
 obtain ⟨b1,b2,b3,b4⟩:=h.de
 have w:∀a b,Ij L v s.E a b=some (Oy v s.E [a,b]):=fun a b=>Aix L v s.E a b hv hm.st h.e b1
 have wf:∀a b,Ij L v s.F a b=some (Oy v s.F [a,b]):=fun a b=>Aix L v s.F a b hv hm.st h.f b2
 simp only [Ae6,sx_R14_stmt_3,Ala,sx_R14_stmt_2,Ak9,sx_R14_stmt_1,Ak8,sx_R14_stmt_0,A2p,Ah2,aN,aB,Ac.cp_eq,Ab.cp_eq,Ba6,Aj5 L _ s.Name hm.st hL,Beu L v s hv hm.st h,Ba5 L m v s hm h,An9 L _ s.Of h2 (by omega),w,wf,Bm2,Em,Option.bind_some,Du,Di]
 unfold A6f
 rcases Arh s.Op with e|e|e|e|e|e|e|e|e|e|e|e|e|e|e|e|e|e|e|e
 case inr.inr.inr.inr.inr.inr.inr.inr.inr.inr.inr.inr.inr.inr.inr.inr.inr.inr.inl=>
  have h':s.Op < 1∨18 < s.Op:= .inl e
  have hk:Tu s.Op=⟨#[]⟩:=by unfold Tu;repeat rw [if_neg (by omega)]
  repeat rw [if_neg (by omega)]
  simp [hk,Av h' 1 (by decide) (by decide),Av h' 2 (by decide) (by decide),Av h' 3 (by decide) (by decide),Av h' 4 (by decide) (by decide),Av h' 5 (by decide) (by decide),Av h' 6 (by decide) (by decide),Av h' 7 (by decide) (by decide),Av h' 8 (by decide) (by decide),Av h' 9 (by decide) (by decide),Av h' 10 (by decide) (by decide),Av h' 11 (by decide) (by decide),Av h' 12 (by decide) (by decide),Av h' 13 (by decide) (by decide),Av h' 14 (by decide) (by decide),Av h' 15 (by decide) (by decide),Av h' 16 (by decide) (by decide),Av h' 17 (by decide) (by decide)]
 case inr.inr.inr.inr.inr.inr.inr.inr.inr.inr.inr.inr.inr.inr.inr.inr.inr.inr.inr=>
  have h':s.Op < 1∨18 < s.Op:= .inr e
  have hk:Tu s.Op=⟨#[]⟩:=by unfold Tu;repeat rw [if_neg (by omega)]
  repeat rw [if_neg (by omega)]
  simp [hk,Av h' 1 (by decide) (by decide),Av h' 2 (by decide) (by decide),Av h' 3 (by decide) (by decide),Av h' 4 (by decide) (by decide),Av h' 5 (by decide) (by decide),Av h' 6 (by decide) (by decide),Av h' 7 (by decide) (by decide),Av h' 8 (by decide) (by decide),Av h' 9 (by decide) (by decide),Av h' 10 (by decide) (by decide),Av h' 11 (by decide) (by decide),Av h' 12 (by decide) (by decide),Av h' 13 (by decide) (by decide),Av h' 14 (by decide) (by decide),Av h' 15 (by decide) (by decide),Av h' 16 (by decide) (by decide),Av h' 17 (by decide) (by decide)]
 all_goals clear w wf h hm
 ·simp [e,B5r]
 ·simp [e,B5s]
 ·simp [e,B5t]
 ·simp [e,B5u]
 ·simp [e,B5v]
 ·by_cases hk:Gf v.Site s.Name=Hl<;>simp [e,B5w,Avi,hk,Rl,Avh,Azg,y6]<;>grind
 ·by_cases hk:Gf v.Site s.Name=Hl<;>simp [e,B5x,Avi,hk,Rl,Avh,Azg,y6]
 ·by_cases hk:Gf v.Site s.Name=Im<;>simp [e,B5y,Amc,hk,Rl,Avh,Azg,y6]
 ·cases hl:Ar2 v.Locals s.Of with
  |none=>by_cases hk:Gf v.Site s.Name=Im<;>simp [e,A98,Amc,hk,Aqs,o2,hl]
  |some t=>
   by_cases hk:Gf v.Site s.Name=Im
   ·by_cases ht:t=1
    ·simp [e,A98,Amc,hk,Aqs,o2,hl,ht]
    ·have ht':=beq_false_of_ne ht
     simp [e,A98,Amc,hk,Aqs,o2,hl,ht,ht',bne]
   ·simp [e,A98,Amc,hk,Aqs,o2,hl]
 ·by_cases hk:Gf v.Site s.Name=An0<;>simp [e,Bx3,Bsd,hk,Rl,Avh,Azg,y6]
 ·by_cases hk:Gf v.Site s.Name=R7<;>simp [e,Bx4,A7v,hk,Rl,Avh,Azg,y6]
 ·by_cases hk:Gf v.Site s.Name=R7<;>simp [e,Bx5,A7v,hk,Rl,Avh,Azg,y6]
 ·simp [e,Bx6]
 ·simp [e,Bx7]
 ·by_cases hk:Gf v.Site s.Name=Afs<;>simp [e,Bx8,Bn0,hk]
 ·by_cases hk:Gf v.Site s.Name=Aio<;>simp [e,Bx9,Bnz,hk,Rl,Avh,Azg,y6]
 ·by_cases hk:Gf v.Site s.Name=R6<;>simp [e,Bya,Bny,hk,Rl,Avh,Azg,y6]
 ·simp [e,Byb]
end Go.Proofs.YtogleahbpobaiaaGreat.Ev
namespace Go.Proofs.YtogleahbpobaiaaGreat.Ev
open Go An
set_option maxRecDepth 100000
set_option linter.unusedVariables false
set_option linter.unusedSimpArgs false
set_option linter.unnecessarySimpa false
mutual
def tyS(m:Ad)(v:Aq):Ac→Int
 | .mk a b c d e f g h i j=>if A6f m v (.mk a b c d e f g h i j)≠0 then A6f m v (.mk a b c d e f g h i j) else if Acd m v i≠0 then Acd m v i else Acd m v j
def Acd(m:Ad)(v:Aq):List Ac→Int
 | []=>0
 |x::k=>if tyS m v x≠0 then tyS m v x else Acd m v k
end
theorem Buj(m:Ad)(v:Aq)(s:Ac):tyS m v s=if A6f m v s≠0 then A6f m v s else if Acd m v s.Body≠0 then Acd m v s.Body else Acd m v s.Else:=by cases s;rw [tyS];rfl
theorem MB.mono{L L':Nat}{m:Ad}{v:Aq}(h:MB L m v)(hl:maxLen < L'):MB L' m v:=⟨hl,h.ev,h.st,h.sites,h.links,h.each⟩
theorem Amg(rec:Aj→List Ac→Option Int)(L:Nat)(r:Aj)(a0:List Ac)(hm:MB L r.u_m r.u_env):∀(k:List Ac) (i:Nat) (v:Int),(∀x∈k,SB L x∧rec r x.Body=some (Acd r.u_m r.u_env x.Body)∧rec r x.Else=some (Acd r.u_m r.u_env x.Else))→∃j,Ek rec L r a0 k i v=some (bif Acd r.u_m r.u_env k != 0 then (0,(Acd r.u_m r.u_env k,j)) else (1,(v,j))):=by
 intro k
 induction k with
 |nil=>intro i v _;exact ⟨i,rfl⟩
 |cons x k ih=>
  intro i v h
  obtain ⟨h0,h1,h2⟩:=h x (by simp)
  obtain ⟨j,hj⟩:=ih (i+1) v fun y hy=>h y (by simp [hy])
  rw [Ek]
  simp only [Ao3 L r x hm h0,h1,h2,hj,Option.bind_some,Acd,Buj]
  by_cases e1:A6f r.u_m r.u_env x=0
  ·by_cases e2:Acd r.u_m r.u_env x.Body=0
   ·by_cases e3:Acd r.u_m r.u_env x.Else=0
    ·exact ⟨j,by simp [e1,e2,e3]⟩
    ·exact ⟨i,by simp [e1,e2,e3,Um e3]⟩
   ·exact ⟨i,by simp [e1,e2,Um e2]⟩
  ·exact ⟨i,by simp [e1,Um e1]⟩
theorem Aoc{l:List Ac}(hl:∀y∈l,B4 y)(r:Aj)(hm:MB (maxLen+1) r.u_m r.u_env):∀L,Fu L l→Dz L r l=some (Acd r.u_m r.u_env l):=by
 refine Af2 (M:=fun l=>∀L,Fu L l→Dz L r l=some (Acd r.u_m r.u_env l)) ?_ hl
 intro l ih L hF
 obtain ⟨L,rfl⟩:=hF.pos
 obtain ⟨n1,n2,n3⟩:=hF.len
 have hm':MB L r.u_m r.u_env:=hm.mono (by obtain ⟨f1,f2⟩:=hF;omega)
 obtain ⟨j,hj⟩:=Amg (Dz L) L r l hm' l 0 0 fun x hx=>⟨hF.sb hx (ih x hx).1,(ih x hx).2.1 L (hF.kid hx).1,(ih x hx).2.2 L (hF.kid hx).2⟩
 simp only [Acg,K6,H1,Uj,Dz,K6,H1,aN,aB,Ajb _ L r l L n1 n2,hj,Option.bind_some]
 by_cases h:Acd r.u_m r.u_env l=0
 ·simp [h,S0]
 ·simp [Um h,H2]
theorem A6v(rec:Ad→Aq→List Ac→Option Int)(L:Nat)(m:Ad)(w:Aq)(a0:List Ac)(hm:MB L m w):∀(k:List Ac) (i:Nat) (v:Int),(∀x∈k,SB L x∧rec m w x.Body=some (Acd m w x.Body)∧rec m w x.Else=some (Acd m w x.Else))→∃j,Hs rec L a0 m w k i v=some (bif Acd m w k != 0 then (0,(Acd m w k,j)) else (1,(v,j))):=by
 intro k
 induction k with
 |nil=>intro i v _;exact ⟨i,rfl⟩
 |cons x k ih=>
  intro i v h
  obtain ⟨h0,h1,h2⟩:=h x (by simp)
  obtain ⟨j,hj⟩:=ih (i+1) v fun y hy=>h y (by simp [hy])
  rw [Hs]
  simp only [Bev L m w x hm h0,h1,h2,hj,Option.bind_some,Acd,Buj]
  by_cases e1:A6f m w x=0
  ·by_cases e2:Acd m w x.Body=0
   ·by_cases e3:Acd m w x.Else=0
    ·exact ⟨j,by simp [e1,e2,e3]⟩
    ·exact ⟨i,by simp [e1,e2,e3,Um e3]⟩
   ·exact ⟨i,by simp [e1,e2,Um e2,beq_false_of_ne e2]⟩
  ·exact ⟨i,by simp [e1,Um e1,beq_false_of_ne e1]⟩
theorem Ba7{l:List Ac}(hl:∀y∈l,B4 y)(m:Ad)(w:Aq)(hm:MB (maxLen+1) m w):∀L,Fu L l→P3 L m w l=some (Acd m w l):=by
 refine Af2 (M:=fun l=>∀L,Fu L l→P3 L m w l=some (Acd m w l)) ?_ hl
 intro l ih L hF
 obtain ⟨L,rfl⟩:=hF.pos
 obtain ⟨n1,n2,n3⟩:=hF.len
 have hm':MB L m w:=hm.mono (by obtain ⟨f1,f2⟩:=hF;omega)
 obtain ⟨j,hj⟩:=A6v (P3 L) L m w l hm' l 0 0 fun x hx=>⟨hF.sb hx (ih x hx).1,(ih x hx).2.1 L (hF.kid hx).1,(ih x hx).2.2 L (hF.kid hx).2⟩
 simp only [Ay2,Ab0,Wd,Apa,P3,Ab0,Wd,aN,aB,A0t _ L l m w L n1 n2,hj,Option.bind_some]
 by_cases h:Acd m w l=0
 ·simp [h,S0]
 ·simp [Um h,H2]
def A5a(m:Ad)(site:Int)(locals:List Ao)(l:List Ac):Int:=
 if Ak1 l≠0 then Ak1 l else if site < 0∨(m.Sites.length:Int)≤site then 2 else Acd m ⟨m.Params,locals,m.Sites.getD site.toNat default⟩ l
theorem Aqy{m:Ad}(hb:Gb m≤1048576):m.Sites.length≤1048576∧m.Links.length≤1048576∧∀d∈m.Sites,Cj d+Db H3 m.Params+4≤Gb m:=by
 unfold Gb at*
 have h1:m.Sites.length≤Db Cj m.Sites:=Iw fun x=>by unfold Cj;omega
 have h2:m.Links.length≤Db S1 m.Links:=Iw fun x=>by unfold S1;omega
 refine ⟨by omega,by omega,fun d hd=> ?_⟩
 have:=Ai3 (g:=Cj) hd
 omega
theorem Bef{m:Ad}(ho:S9 m)(hb:Gb m≤1048576){locals:List Ao}(hl:locals.length≤maxLen∧∀y∈locals,Nf y){i:Nat}(hi:i < m.Sites.length):MB (maxLen+1) m ⟨m.Params,locals,m.Sites.getD i default⟩:=by
 obtain ⟨s1,s2,s3⟩:=Aqy hb
 have each:∀d∈m.Sites,U9 d 1099511627776:=fun d hd=>(Aqt d).mono (by have:=s3 d hd;omega)
 have hd:m.Sites.getD i default∈m.Sites:=by rw [Hk _ i hi];exact List.getElem_mem hi
 exact ⟨by omega,⟨ho.2.1,hl,ho.2.2.1.2 _ hd⟩,each _ hd,by omega,by omega,each⟩
theorem A01{m:Ad}(ho:S9 m)(hb:Gb m≤1048576){locals:List Ao}(hc:locals.length≤maxLen∧∀y∈locals,Nf y)(site:Int){l:List Ac}(hl:∀y∈l,B4 y)(L:Nat)(hF:Fu L l):Rv L m site locals l=some (A5a m site locals l):=by
 simp only [Aia,Rv,aN,aB,Asu hl L hF,Option.bind_some,Kq,A5a]
 by_cases h0:Ak1 l=0
 ·simp only [h0,bne_self_eq_false,cond_false,ne_eq,not_true_eq_false,if_false]
  by_cases h1:site < 0∨(m.Sites.length:Int)≤site
  ·have:(decide (site < 0) || decide (site≥(m.Sites.length:Int)))=true:=by rcases h1 with h|h<;>simp [h]
   simp only [this,cond_true,if_pos h1]
  ·have h2:¬site < 0:=fun h=>h1 (.inl h)
   have h3:¬(m.Sites.length:Int)≤site:=fun h=>h1 (.inr h)
   have:(decide (site < 0) || decide (site≥(m.Sites.length:Int)))=false:=by simp;omega
   simp only [this,cond_false,if_neg h1]
   rw [ifp (by omega),ifp (by omega)]
   rw [Aoc hl ⟨m,site,⟨m.Params,locals,m.Sites.getD site.toNat default⟩⟩ (Bef ho hb hc (by omega)) L hF,Option.bind_some]
 ·simp only [Um h0,cond_true,if_pos h0]
theorem Ba4{m:Ad}(ho:S9 m)(hb:Gb m≤1048576){locals:List Ao}(hc:locals.length≤maxLen∧∀y∈locals,Nf y)(site:Int){l:List Ac}(hl:∀y∈l,B4 y)(L:Nat)(hF:Fu L l):Afl L m site locals l=some (A5a m site locals l):=by
 simp only [Apu,Afl,aN,aB,Av2 hl L hF,Option.bind_some,Kq,A5a]
 by_cases h0:Ak1 l=0
 ·simp only [h0,bne_self_eq_false,cond_false,ne_eq,not_true_eq_false,if_false]
  by_cases h1:site < 0∨(m.Sites.length:Int)≤site
  ·have:(decide (site < 0) || decide (site≥(m.Sites.length:Int)))=true:=by rcases h1 with h|h<;>simp [h]
   simp only [this,cond_true,if_pos h1]
  ·have h2:¬site < 0:=fun h=>h1 (.inl h)
   have h3:¬(m.Sites.length:Int)≤site:=fun h=>h1 (.inr h)
   have:(decide (site < 0) || decide (site≥(m.Sites.length:Int)))=false:=by simp;omega
   simp only [this,cond_false,if_neg h1]
   rw [ifp (by omega),ifp (by omega)]
   rw [Ba7 hl m ⟨m.Params,locals,m.Sites.getD site.toNat default⟩ (Bef ho hb hc (by omega)) L hF,Option.bind_some]
 ·simp only [Um h0,cond_true,if_pos h0]
theorem Be1(L:Nat)(b:Bool)(i:Nat)(m:Ad)(hi:i < m.Sites.length)(hc:∀x∈(m.Sites.getD i default).Routines,∃n,Ii L x.Body=some n)(hl:(m.Sites.getD i default).Routines.length≤1048576):∀(n j:Nat) (v:Int),(m.Sites.getD i default).Routines.length - j < n→∃w t,W6 L b (i:Int) m n v (j:Int)=some (0,(w,t)):=by
 intro n
 induction n with
 |zero=>intro j v h;omega
 |succ n ih=>
  intro j v h
  rw [W6]
  unfold An2
  simp only [aN,aB]
  rw [ifp (by omega),ifp (by omega),Ix]
  by_cases hj:j < (m.Sites.getD i default).Routines.length
  ·rw [decide_eq_true (show (j:Int) < ((m.Sites.getD i default).Routines.length:Int) by omega),cond_true,ifp (by omega),ifp (by omega),ifp (by omega),ifp (by omega),Ix]
   obtain ⟨c,hx⟩:=hc ((m.Sites.getD i default).Routines.getD j default) (by rw [Hk _ j hj];exact List.getElem_mem hj)
   rw [hx,Option.bind_some,Tn (n:=(j:Int)+1) (by omega) (by omega)]
   exact ih (j+1) _ (by omega)
  ·rw [decide_eq_false (show¬(j:Int) < ((m.Sites.getD i default).Routines.length:Int) by omega),cond_false]
   exact ⟨_,_,rfl⟩
theorem Be0(L:Nat)(m:Ad)(hb:Gb m≤1048576)(hL:1048576 < L)(hc:∀d∈m.Sites,∀x∈d.Routines,∃n,Ii L x.Body=some n):∀(k:List Aa) (i:Nat) (b:Bool) (v:Int),m.Sites.drop i=k→∃t c w j,Th L m k i b v=some (t,(c,w,j))∧(t=0∨t=1):=by
 obtain ⟨s1,s2,s3⟩:=Aqy hb
 intro k
 induction k with
 |nil=>intro i b v _;exact ⟨1,b,v,i,rfl,.inr rfl⟩
 |cons x k ih=>
  intro i b v h
  have hi:i < m.Sites.length:=by
   have:=congrArg List.length h
   rw [List.length_drop,List.length_cons] at this
   omega
  have hx:m.Sites.getD i default=x:=by
   rw [Y8 m.Sites i hi] at h
   injection h
  have hk:m.Sites.drop (i+1)=k:=by
   rw [Y8 m.Sites i hi] at h
   injection h
  have hxm:x∈m.Sites:=by rw [←hx,Hk _ i hi];exact List.getElem_mem hi
  have hxb:=s3 x hxm
  have hli:=Bar L ⟨m.Params,[],x⟩ (by unfold Atc;simp only [Db];omega)
  have hrl:x.Routines.length≤1048576:=((Aqt x).mono (show Cj x≤1048576 by omega)).2.2.2.2.2.2.2.2.2
  rw [Th,hli,Option.bind_some]
  cases Bgy ⟨m.Params,[],x⟩ with
  |false=>exact ⟨0,false,v,i,rfl,.inl rfl⟩
  |true=>
   obtain ⟨w,t,hw⟩:=Be1 L b i m hi (by rw [hx];exact hc x hxm) (by rw [hx];exact hrl) L 0 v (by rw [hx];omega)
   simp only [Bool.not_true,cond_false]
   rw [show (0:Int)=((0:Nat):Int) from rfl,hw,Option.bind_some]
   exact ih (i+1) b w hk
theorem Bg1{m:Ad}(ho:S9 m)(hb:Gb m≤1048576)(L:Nat)(hL:maxLen+2097152 < L):∃b,Arp L m=some b:=by
 have hM:=Bd
 obtain ⟨s1,s2,s3⟩:=Aqy hb
 have hc:∀d∈m.Sites,∀x∈d.Routines,∃n,Ii L x.Body=some n:=by
  intro d hd x hx
  have h1:=s3 d hd
  have h2:Cp x≤Cj d:=by
   have:=Ai3 (g:=Cp) hx
   unfold Cj
   omega
  have h3:D0 x.Body≤1048576:=by
   rw [L3]
   unfold Cp at h2
   omega
  have h4:=Ate x.Body
  have h5:Gm x:=by
   obtain ⟨_,_,_,_,_,_,_,_,_,_,h,_⟩:=ho.2.2.1.2 d hd
   exact h.2 x hx
  have h6:maxLen+1048576+dSs x.Body≤maxLen+2097152:=by rw [Nat.add_assoc];exact Nat.add_le_add_left (by omega) _
  exact ⟨_,Av3 (show∀y∈x.Body,B4 y from h5.2.2.2.2) L ⟨Nat.lt_of_le_of_lt h6 hL,h3⟩⟩
 obtain ⟨t,c,w,j,hq,ht⟩:=Be0 L m hb (by omega) hc m.Sites 0 false 0 rfl
 simp only [A60,Ahq,Aay,Arp,Ahq,Aay,aN,aB,A5x L m L (show m.Sites.length≤maxLen by omega) (by omega),hq,Option.bind_some,Di]
 rcases ht with rfl|rfl
 ·exact ⟨_,rfl⟩
 ·exact ⟨_,rfl⟩
end Go.Proofs.YtogleahbpobaiaaGreat.Ev
