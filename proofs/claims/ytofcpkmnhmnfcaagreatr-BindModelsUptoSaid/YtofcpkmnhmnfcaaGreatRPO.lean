/-  Chapter 14, plainly: statements, in the program and in the reference. -/
import Derived.Test.YtofcpkmnhmnfcaaGreatRQA
import Derived.Test.YtofcpkmnhmnfcaaGreatRPM
namespace Go.Proofs.YtofcpkmnhmnfcaaGreatR.Ev
open Go An
set_option maxRecDepth 100000
set_option linter.unusedVariables false
set_option linter.unusedSimpArgs false
set_option linter.unnecessarySimpa false
theorem Bhz(L:Nat)(v:Aq)(s:Ad)(hv:Ei v)(hs:Ys v.Site 1099511627776)(h:SB L s):Au5 L v s=some (if s.Op=1 then Bx9 v s else Aug v s.Name (decide (Hf v.Site s.Of=Aqb)) [1,3]):=by
 have hM:=Bb
 have hL:=h.lt
 have h2:=hv.2.1.1
 have h4:=hv.2.2.len.1
 obtain ⟨b1,b2,b3,b4⟩:=h.de
 have hw:∀t,I8 L v s.E t t=some (Rh v s.E [t]):=fun t=>by rw [Ams L v s.E t t hv hs h.e b1,Brs]
 simp only [A0l,Au5,aN,aB,Ab.cp_eq,Ary L _ s.Name h2 (by omega),Aor L _ s.Name h4 (by omega),Anx L _ s.Of hs hL,Akj,hw,D0,Option.bind_some,Bx9,Aug]
 by_cases h1:s.Op=1
 ·simp only [h1,beq_self_eq_true,cond_true,if_true]
  cases Avi v.Locals s.Name with
  |some t=>rfl
  |none=>
   cases Ba9 v.Site.Vars s.Name with
   |some t=>rfl
   |none=>rfl
 ·simp only [h1,beq_false_of_ne h1,cond_false,if_false]
  cases Avi v.Locals s.Name with
  |none=>rfl
  |some t=>
   simp only [o2,Bool.not_true,cond_false,Option.bind_some,Aqb,List.any_cons,List.any_nil,Azo,Bool.or_false]
   by_cases hk:Hf v.Site s.Of=⟨#[115,116,114,101,97,109]⟩
   ·cases hm:(t == 1 || t == 3)<;>simp [hk,hm]
   ·simp [hk]
theorem Bee(L:Nat)(m:Ac)(v:Aq)(s:Ad)(hm:MB L m v)(h:SB L s):Ane L m v s=some (if s.Op=14 then A9l v s else Bik m v s):=by
 have hM:=Bb
 have h1:=hm.sites
 have h2:=hm.links
 have hL:=hm.fuel
 have ha:∀ps,Af4 L v s ps=some (A69 v ps s):=fun ps=>Bhx L v s ps hm.ev hm.st h
 simp only [Att,Ane,aN,aB,Ad.cp_eq,Amr L v.Site s.Name hm.st hL,A3j L m s.Of (by omega) hL,Bhs L m _ _ (show m.Links.length≤maxLen by omega) hL,ha,Option.bind_some,Bik,A9l,Bij,Ame,A3m,U2,Adr]
 by_cases h14:s.Op=14
 ·simp only [h14,beq_self_eq_true,cond_true,if_true]
  cases hg:v.Site.Routines.findIdx? (fun x=>decide (x.Name=s.Name)) with
  |none=>rfl
  |some j=>
   have hj:=Aj1 hg
   simp only [Option.isNone_some,cond_false,N7,nn,if_true,Hp hj,Z8,Option.map_some]
 ·simp only [h14,beq_false_of_ne h14,cond_false,if_false]
  cases hf:m.Sites.findIdx? (fun x=>decide (x.Name=s.Of)) with
  |none=>rfl
  |some i=>
   have hi:=Aj1 hf
   have hd:Ys (m.Sites.getD i default) 1099511627776:=hm.each _ (by rw [Hb _ i hi];exact List.getElem_mem hi)
   simp only [Option.isNone_some,cond_false,N7,nn,if_true,Hp hi,Z8,Option.map_some,Amr L _ s.Name hd hL,Option.bind_some,U2,Adr]
   cases hg:(m.Sites.getD i default).Routines.findIdx? (fun x=>decide (x.Name=s.Name)) with
   |none=>rfl
   |some j=>
    have hj:=Aj1 hg
    simp only [Option.isNone_some,cond_false,N7,nn,if_true,Hp hj,Z8,Option.map_some]
    cases (A7v m v.Site.Name s.Of).2<;>rfl
def Wk(op:Int):ByteArray:=
 if op=6∨op=7 then H8 else if op=8∨op=9 then Ja else if op=10 then Arp else if op=11∨op=12 then Uw else if op=15 then Ajd else if op=16 then Amj else if op=17 then Uv else ⟨#[]⟩
theorem Bef(L:Nat)(op:Int):Anf L op=some (Wk op):=by
 simp only [Atu,Anf,aN,aB]
 rcases Auw op with rfl|rfl|rfl|rfl|rfl|rfl|rfl|rfl|rfl|rfl|rfl|rfl|rfl|rfl|rfl|rfl|rfl|rfl|h|h
 case inr.inr.inr.inr.inr.inr.inr.inr.inr.inr.inr.inr.inr.inr.inr.inr.inr.inr.inl=>
  have h':op < 1∨18 < op:= .inl h
  unfold Wk
  repeat rw [if_neg (by omega)]
  simp only [cond_false,Az h' 6 (by decide) (by decide),Az h' 7 (by decide) (by decide),Az h' 8 (by decide) (by decide),Az h' 9 (by decide) (by decide),Az h' 10 (by decide) (by decide),Az h' 11 (by decide) (by decide),Az h' 12 (by decide) (by decide),Az h' 15 (by decide) (by decide),Az h' 16 (by decide) (by decide),Az h' 17 (by decide) (by decide)]
 case inr.inr.inr.inr.inr.inr.inr.inr.inr.inr.inr.inr.inr.inr.inr.inr.inr.inr.inr=>
  have h':op < 1∨18 < op:= .inr h
  unfold Wk
  repeat rw [if_neg (by omega)]
  simp only [cond_false,Az h' 6 (by decide) (by decide),Az h' 7 (by decide) (by decide),Az h' 8 (by decide) (by decide),Az h' 9 (by decide) (by decide),Az h' 10 (by decide) (by decide),Az h' 11 (by decide) (by decide),Az h' 12 (by decide) (by decide),Az h' 15 (by decide) (by decide),Az h' 16 (by decide) (by decide),Az h' 17 (by decide) (by decide)]
 all_goals rfl
theorem Ay7(v:Aq)(e:Ab):Ads v [e]=Rh v e [1]:=by
 unfold Ads Ads
 by_cases h:Rh v e [1]=0<;>simp [h]
theorem A3g(v:Aq)(e f:Ab):Ads v [e,f]=if Rh v e [1]≠0 then Rh v e [1] else Rh v f [1]:=by
 rw [Ads,Ay7]
theorem Cb4:Wk 1=⟨#[]⟩:=rfl
theorem Cb5:Wk 2=⟨#[]⟩:=rfl
theorem Cb6:Wk 3=⟨#[]⟩:=rfl
theorem Cb7:Wk 4=⟨#[]⟩:=rfl
theorem Cb8:Wk 5=⟨#[]⟩:=rfl
theorem Cb9:Wk 6=H8:=rfl
theorem Cca:Wk 7=H8:=rfl
theorem Ccb:Wk 8=Ja:=rfl
theorem Bds:Wk 9=Ja:=rfl
theorem B36:Wk 10=Arp:=rfl
theorem B37:Wk 11=Uw:=rfl
theorem B38:Wk 12=Uw:=rfl
theorem B39:Wk 13=⟨#[]⟩:=rfl
theorem B4a:Wk 14=⟨#[]⟩:=rfl
theorem B4b:Wk 15=Ajd:=rfl
theorem B4c:Wk 16=Amj:=rfl
theorem B4d:Wk 17=Uv:=rfl
theorem B4e:Wk 18=⟨#[]⟩:=rfl
theorem Bxp:(Arp=(⟨#[]⟩:ByteArray))=False:=eq_false (by decide)
theorem Bsz:(Uv=(⟨#[]⟩:ByteArray))=False:=eq_false (by decide)
theorem Bs0:(Amj=(⟨#[]⟩:ByteArray))=False:=eq_false (by decide)
theorem Bbu:(Uw=(⟨#[]⟩:ByteArray))=False:=eq_false (by decide)
theorem Ay8:(H8=(⟨#[]⟩:ByteArray))=False:=eq_false (by decide)
theorem Aqa:(Ja=(⟨#[]⟩:ByteArray))=False:=eq_false (by decide)
theorem Bs1:(Ajd=(⟨#[]⟩:ByteArray))=False:=eq_false (by decide)
theorem Bh0(L:Nat)(m:Ac)(v:Aq)(s:Ad)(hm:MB L m v)(h:SB L s):Alz L m v s=some (Bal m v s):=by
 have hM:=Bb
 have hL:=hm.fuel
 have hv:=hm.ev
 have h2:=hv.2.1.1
 obtain ⟨b1,b2,b3,b4⟩:=h.de
 have w:∀a b,I8 L v s.E a b=some (Rh v s.E [a,b]):=fun a b=>Ams L v s.E a b hv hm.st h.e b1
 have wf:∀a b,I8 L v s.F a b=some (Rh v s.F [a,b]):=fun a b=>Ams L v s.F a b hv hm.st h.f b2
 simp only [Ain,sx_R14_stmt_3,Ao6,sx_R14_stmt_2,Ao5,sx_R14_stmt_1,Ao4,sx_R14_stmt_0,A62,Alz,aN,aB,Ad.cp_eq,Ab.cp_eq,Bef,Anx L _ s.Name hm.st hL,Bhz L v s hv hm.st h,Bee L m v s hm h,Ary L _ s.Of h2 (by omega),w,wf,Brs,D0,Option.bind_some,Dt,Dq]
 unfold Bal
 rcases Auw s.Op with e|e|e|e|e|e|e|e|e|e|e|e|e|e|e|e|e|e|e|e
 case inr.inr.inr.inr.inr.inr.inr.inr.inr.inr.inr.inr.inr.inr.inr.inr.inr.inr.inl=>
  have h':s.Op < 1∨18 < s.Op:= .inl e
  have hk:Wk s.Op=⟨#[]⟩:=by unfold Wk;repeat rw [if_neg (by omega)]
  repeat rw [if_neg (by omega)]
  simp [hk,Az h' 1 (by decide) (by decide),Az h' 2 (by decide) (by decide),Az h' 3 (by decide) (by decide),Az h' 4 (by decide) (by decide),Az h' 5 (by decide) (by decide),Az h' 6 (by decide) (by decide),Az h' 7 (by decide) (by decide),Az h' 8 (by decide) (by decide),Az h' 9 (by decide) (by decide),Az h' 10 (by decide) (by decide),Az h' 11 (by decide) (by decide),Az h' 12 (by decide) (by decide),Az h' 13 (by decide) (by decide),Az h' 14 (by decide) (by decide),Az h' 15 (by decide) (by decide),Az h' 16 (by decide) (by decide),Az h' 17 (by decide) (by decide)]
 case inr.inr.inr.inr.inr.inr.inr.inr.inr.inr.inr.inr.inr.inr.inr.inr.inr.inr.inr=>
  have h':s.Op < 1∨18 < s.Op:= .inr e
  have hk:Wk s.Op=⟨#[]⟩:=by unfold Wk;repeat rw [if_neg (by omega)]
  repeat rw [if_neg (by omega)]
  simp [hk,Az h' 1 (by decide) (by decide),Az h' 2 (by decide) (by decide),Az h' 3 (by decide) (by decide),Az h' 4 (by decide) (by decide),Az h' 5 (by decide) (by decide),Az h' 6 (by decide) (by decide),Az h' 7 (by decide) (by decide),Az h' 8 (by decide) (by decide),Az h' 9 (by decide) (by decide),Az h' 10 (by decide) (by decide),Az h' 11 (by decide) (by decide),Az h' 12 (by decide) (by decide),Az h' 13 (by decide) (by decide),Az h' 14 (by decide) (by decide),Az h' 15 (by decide) (by decide),Az h' 16 (by decide) (by decide),Az h' 17 (by decide) (by decide)]
 all_goals clear w wf h hm
 ·simp [e,Cb4]
 ·simp [e,Cb5]
 ·simp [e,Cb6]
 ·simp [e,Cb7]
 ·simp [e,Cb8]
 ·by_cases hk:Hf v.Site s.Name=H8<;>simp [e,Cb9,Ay8,hk,T8,Ay7,A3g,Ads]<;>grind
 ·by_cases hk:Hf v.Site s.Name=H8<;>simp [e,Cca,Ay8,hk,T8,Ay7,A3g,Ads]
 ·by_cases hk:Hf v.Site s.Name=Ja<;>simp [e,Ccb,Aqa,hk,T8,Ay7,A3g,Ads]
 ·cases hl:Avi v.Locals s.Of with
  |none=>by_cases hk:Hf v.Site s.Name=Ja<;>simp [e,Bds,Aqa,hk,Aug,o2,hl]
  |some t=>
   by_cases hk:Hf v.Site s.Name=Ja
   ·by_cases ht:t=1
    ·simp [e,Bds,Aqa,hk,Aug,o2,hl,ht]
    ·have ht':=beq_false_of_ne ht
     simp [e,Bds,Aqa,hk,Aug,o2,hl,ht,ht',bne]
   ·simp [e,Bds,Aqa,hk,Aug,o2,hl]
 ·by_cases hk:Hf v.Site s.Name=Arp<;>simp [e,B36,Bxp,hk,T8,Ay7,A3g,Ads]
 ·by_cases hk:Hf v.Site s.Name=Uw<;>simp [e,B37,Bbu,hk,T8,Ay7,A3g,Ads]
 ·by_cases hk:Hf v.Site s.Name=Uw<;>simp [e,B38,Bbu,hk,T8,Ay7,A3g,Ads]
 ·simp [e,B39]
 ·simp [e,B4a]
 ·by_cases hk:Hf v.Site s.Name=Ajd<;>simp [e,B4b,Bs1,hk]
 ·by_cases hk:Hf v.Site s.Name=Amj<;>simp [e,B4c,Bs0,hk,T8,Ay7,A3g,Ads]
 ·by_cases hk:Hf v.Site s.Name=Uv<;>simp [e,B4d,Bsz,hk,T8,Ay7,A3g,Ads]
 ·simp [e,B4e]
mutual
def tyS(m:Ac)(v:Aq):Ad→Int
 | .mk a b c d e f g h i j=>if Bal m v (.mk a b c d e f g h i j)≠0 then Bal m v (.mk a b c d e f g h i j) else if Aft m v i≠0 then Aft m v i else Aft m v j
def Aft(m:Ac)(v:Aq):List Ad→Int
 | []=>0
 |x::k=>if tyS m v x≠0 then tyS m v x else Aft m v k
end
theorem Bzy(m:Ac)(v:Aq)(s:Ad):tyS m v s=if Bal m v s≠0 then Bal m v s else if Aft m v s.Body≠0 then Aft m v s.Body else Aft m v s.Else:=by cases s;rw [tyS];rfl
theorem MB.mono{L L':Nat}{m:Ac}{v:Aq}(h:MB L m v)(hl:maxLen < L'):MB L' m v:=⟨hl,h.ev,h.st,h.sites,h.links,h.each⟩
theorem Aqe(rec:Ao→List Ad→Option Int)(L:Nat)(r:Ao)(a0:List Ad)(hm:MB L r.u_m r.u_env):∀(k:List Ad) (i:Nat) (v:Int),(∀x∈k,SB L x∧rec r x.Body=some (Aft r.u_m r.u_env x.Body)∧rec r x.Else=some (Aft r.u_m r.u_env x.Else))→∃j,Es rec L r a0 k i v=some (bif Aft r.u_m r.u_env k != 0 then (0,(Aft r.u_m r.u_env k,j)) else (1,(v,j))):=by
 intro k
 induction k with
 |nil=>intro i v _;exact ⟨i,rfl⟩
 |cons x k ih=>
  intro i v h
  obtain ⟨h0,h1,h2⟩:=h x (by simp)
  obtain ⟨j,hj⟩:=ih (i+1) v fun y hy=>h y (by simp [hy])
  rw [Es]
  simp only [Asy L r x hm h0,h1,h2,hj,Option.bind_some,Aft,Bzy]
  by_cases e1:Bal r.u_m r.u_env x=0
  ·by_cases e2:Aft r.u_m r.u_env x.Body=0
   ·by_cases e3:Aft r.u_m r.u_env x.Else=0
    ·exact ⟨j,by simp [e1,e2,e3]⟩
    ·exact ⟨i,by simp [e1,e2,e3,Wl e3]⟩
   ·exact ⟨i,by simp [e1,e2,Wl e2]⟩
  ·exact ⟨i,by simp [e1,Wl e1]⟩
theorem Ar1{l:List Ad}(hl:∀y∈l,B2 y)(r:Ao)(hm:MB (maxLen+1) r.u_m r.u_env):∀L,Fu L l→D2 L r l=some (Aft r.u_m r.u_env l):=by
 refine Aa7 (M:=fun l=>∀L,Fu L l→D2 L r l=some (Aft r.u_m r.u_env l)) ?_ hl
 intro l ih L hF
 obtain ⟨L,rfl⟩:=hF.pos
 obtain ⟨n1,n2,n3⟩:=hF.len
 have hm':MB L r.u_m r.u_env:=hm.mono (by obtain ⟨f1,f2⟩:=hF;omega)
 obtain ⟨j,hj⟩:=Aqe (D2 L) L r l hm' l 0 0 fun x hx=>⟨hF.sb hx (ih x hx).1,(ih x hx).2.1 L (hF.kid hx).1,(ih x hx).2.2 L (hF.kid hx).2⟩
 simp only [Afw,Im,Xb,D2,Im,aN,aB,Am5 _ L r l L n1 n2,hj,Option.bind_some]
 by_cases h:Aft r.u_m r.u_env l=0
 ·simp [h,Kx]
 ·simp [Wl h,Gm]
theorem Ba1(rec:Ac→Aq→List Ad→Option Int)(L:Nat)(m:Ac)(w:Aq)(a0:List Ad)(hm:MB L m w):∀(k:List Ad) (i:Nat) (v:Int),(∀x∈k,SB L x∧rec m w x.Body=some (Aft m w x.Body)∧rec m w x.Else=some (Aft m w x.Else))→∃j,Ik rec L a0 m w k i v=some (bif Aft m w k != 0 then (0,(Aft m w k,j)) else (1,(v,j))):=by
 intro k
 induction k with
 |nil=>intro i v _;exact ⟨i,rfl⟩
 |cons x k ih=>
  intro i v h
  obtain ⟨h0,h1,h2⟩:=h x (by simp)
  obtain ⟨j,hj⟩:=ih (i+1) v fun y hy=>h y (by simp [hy])
  rw [Ik]
  simp only [Bh0 L m w x hm h0,h1,h2,hj,Option.bind_some,Aft,Bzy]
  by_cases e1:Bal m w x=0
  ·by_cases e2:Aft m w x.Body=0
   ·by_cases e3:Aft m w x.Else=0
    ·exact ⟨j,by simp [e1,e2,e3]⟩
    ·exact ⟨i,by simp [e1,e2,e3,Wl e3]⟩
   ·exact ⟨i,by simp [e1,e2,Wl e2,beq_false_of_ne e2]⟩
  ·exact ⟨i,by simp [e1,Wl e1,beq_false_of_ne e1]⟩
theorem Beg{l:List Ad}(hl:∀y∈l,B2 y)(m:Ac)(w:Aq)(hm:MB (maxLen+1) m w):∀L,Fu L l→Sh L m w l=some (Aft m w l):=by
 refine Aa7 (M:=fun l=>∀L,Fu L l→Sh L m w l=some (Aft m w l)) ?_ hl
 intro l ih L hF
 obtain ⟨L,rfl⟩:=hF.pos
 obtain ⟨n1,n2,n3⟩:=hF.len
 have hm':MB L m w:=hm.mono (by obtain ⟨f1,f2⟩:=hF;omega)
 obtain ⟨j,hj⟩:=Ba1 (Sh L) L m w l hm' l 0 0 fun x hx=>⟨hF.sb hx (ih x hx).1,(ih x hx).2.1 L (hF.kid hx).1,(ih x hx).2.2 L (hF.kid hx).2⟩
 simp only [A2z,Z1,As6,Sh,Z1,aN,aB,A4j _ L l m w L n1 n2,hj,Option.bind_some]
 by_cases h:Aft m w l=0
 ·simp [h,Kx]
 ·simp [Wl h,Gm]
def A9q(m:Ac)(site:Int)(locals:List Ap)(l:List Ad):Int:=
 if Aox l≠0 then Aox l else if site < 0∨(m.Sites.length:Int)≤site then 2 else Aft m ⟨m.Params,locals,m.Sites.getD site.toNat default⟩ l
theorem Bhh{m:Ac}(hb:Hr m≤1048576):m.Sites.length≤1048576∧m.Links.length≤1048576∧∀d∈m.Sites,Ec d+Hd Ha m.Params+4≤Hr m:=by
 unfold Hr at*
 have h1:m.Sites.length≤Hd Ec m.Sites:=Io fun x=>by unfold Ec;omega
 have h2:m.Links.length≤Hd Ajb m.Links:=Io fun x=>by unfold Ajb;omega
 refine ⟨by omega,by omega,fun d hd=> ?_⟩
 have:=Amy (g:=Ec) hd
 omega
theorem Bhg{m:Ac}(ho:f5 m)(hb:Hr m≤1048576){locals:List Ap}(hl:locals.length≤maxLen∧∀y∈locals,Ov y){i:Nat}(hi:i < m.Sites.length):MB (maxLen+1) m ⟨m.Params,locals,m.Sites.getD i default⟩:=by
 obtain ⟨s1,s2,s3⟩:=Bhh hb
 have each:∀d∈m.Sites,Ys d 1099511627776:=fun d hd=>(A7u d).mono (by have:=s3 d hd;omega)
 have hd:m.Sites.getD i default∈m.Sites:=by rw [Hb _ i hi];exact List.getElem_mem hi
 exact ⟨by omega,⟨ho.2.1,hl,ho.2.2.1.2 _ hd⟩,each _ hd,by omega,by omega,each⟩
theorem A4u{m:Ac}(ho:f5 m)(hb:Hr m≤1048576){locals:List Ap}(hc:locals.length≤maxLen∧∀y∈locals,Ov y)(site:Int){l:List Ad}(hl:∀y∈l,B2 y)(L:Nat)(hF:Fu L l):Um L m site locals l=some (A9q m site locals l):=by
 simp only [Al8,Um,aN,aB,Awf hl L hF,Option.bind_some,Ly,A9q]
 by_cases h0:Aox l=0
 ·simp only [h0,bne_self_eq_false,cond_false,ne_eq,not_true_eq_false,if_false]
  by_cases h1:site < 0∨(m.Sites.length:Int)≤site
  ·have:(decide (site < 0) || decide (site≥(m.Sites.length:Int)))=true:=by rcases h1 with h|h<;>simp [h]
   simp only [this,cond_true,if_pos h1]
  ·have h2:¬site < 0:=fun h=>h1 (.inl h)
   have h3:¬(m.Sites.length:Int)≤site:=fun h=>h1 (.inr h)
   have:(decide (site < 0) || decide (site≥(m.Sites.length:Int)))=false:=by simp;omega
   simp only [this,cond_false,if_neg h1]
   rw [ifp (by omega),ifp (by omega)]
   rw [Ar1 hl ⟨m,site,⟨m.Params,locals,m.Sites.getD site.toNat default⟩⟩ (Bhg ho hb hc (by omega)) L hF,Option.bind_some]
 ·simp only [Wl h0,cond_true,if_pos h0]
theorem Bed{m:Ac}(ho:f5 m)(hb:Hr m≤1048576){locals:List Ap}(hc:locals.length≤maxLen∧∀y∈locals,Ov y)(site:Int){l:List Ad}(hl:∀y∈l,B2 y)(L:Nat)(hF:Fu L l):Ai3 L m site locals l=some (A9q m site locals l):=by
 simp only [Ats,Ai3,aN,aB,Azt hl L hF,Option.bind_some,Ly,A9q]
 by_cases h0:Aox l=0
 ·simp only [h0,bne_self_eq_false,cond_false,ne_eq,not_true_eq_false,if_false]
  by_cases h1:site < 0∨(m.Sites.length:Int)≤site
  ·have:(decide (site < 0) || decide (site≥(m.Sites.length:Int)))=true:=by rcases h1 with h|h<;>simp [h]
   simp only [this,cond_true,if_pos h1]
  ·have h2:¬site < 0:=fun h=>h1 (.inl h)
   have h3:¬(m.Sites.length:Int)≤site:=fun h=>h1 (.inr h)
   have:(decide (site < 0) || decide (site≥(m.Sites.length:Int)))=false:=by simp;omega
   simp only [this,cond_false,if_neg h1]
   rw [ifp (by omega),ifp (by omega)]
   rw [Beg hl m ⟨m.Params,locals,m.Sites.getD site.toNat default⟩ (Bhg ho hb hc (by omega)) L hF,Option.bind_some]
 ·simp only [Wl h0,cond_true,if_pos h0]
end Go.Proofs.YtofcpkmnhmnfcaaGreatR.Ev
