/-  Chapter 11, plainly: a model is the same as itself. -/
import Derived.Test.YtofcpkmnhmnfcaaGreatRQA
import Derived.Test.YtofcpkmnhmnfcaaGreatRCH
import Derived.Test.YtofcpkmnhmnfcaaGreatRDk
namespace Go.Proofs.YtofcpkmnhmnfcaaGreatR.Ev
open Go An
set_option maxRecDepth 100000
set_option linter.unusedVariables false
set_option linter.unusedSimpArgs false
set_option linter.unnecessarySimpa false
theorem Z7{α :Type} [Inhabited α](l:List α)(lq:List α→Nat→Bool→Option (Nat×(Bool×Int)))(h0:∀(i:Nat) (v:Bool),lq [] i v=some (1,(v,(i:Int))))
  (h1:∀(i:Nat) (v:Bool) (x: α) (k:List α),i < l.length→x∈l→l.getD i default=x→lq (x::k) i v=lq k (i+1) v):∀(k:List α) (i:Nat) (v:Bool),l.drop i=k→∃j:Int,lq k i v=some (1,(v,j)):=by
 intro k
 induction k with
 |nil=>intro i v _;exact ⟨i,h0 i v⟩
 |cons x k ih=>
  intro i v h
  obtain ⟨hi,hx,hk⟩:=Pt h
  obtain ⟨j,hj⟩:=ih (i+1) v hk
  exact ⟨j,by rw [h1 i v x k hi (by rw [←hx,Hb _ i hi];exact List.getElem_mem hi) hx];exact hj⟩
theorem Buu(a b:ByteArray):(a == b)=decide (a=b):=by
 by_cases h:a=b
 ·subst h
  rw [decide_eq_true rfl]
  cases a with|mk x=>show (x == x)=true;exact beq_self_eq_true x
 ·rw [decide_eq_false h]
  cases a with|mk x=>cases b with|mk y=>
   show (x == y)=false
   exact beq_eq_false_iff_ne.2 fun e=>h (by rw [e])
instance decSet:DecidableEq Ae:=fun a b=>decidable_of_iff (a.Name=b.Name∧a.N=b.N) (by cases a;cases b;simp)
theorem A9z(a:ByteArray):(a == a)=true:=by rw [Buu];exact decide_eq_true rfl
theorem Bpt(d:Bn):Amw d d=true:=by simp [Amw]
theorem Bic(L:Nat)(l:List Int)(hl:l.length≤maxLen)(hL:maxLen < L):Y0 L l l=some true:=by
 obtain ⟨j,hj⟩:=Z7 l (Kb L l l) (fun _ _=>rfl) (fun i v x k hi _ hx=>by rw [Kb,if_pos (show (i:Int) < ((l.length:Nat):Int) by omega),Z8,hx];simp [A9z]) l 0 false rfl
 simp only [Atq,Yi,S2,Y0,Yi,S2,aN,aB,Axp L l l L hl (by omega),hj,bne_self_eq_false,cond_false,Option.bind_some,Kx]
theorem Aep(L:Nat)(l:List ByteArray)(hl:l.length≤maxLen)(hL:maxLen < L):Kk L l l=some true:=by
 obtain ⟨j,hj⟩:=Z7 l (I6 L l l) (fun _ _=>rfl) (fun i v x k hi _ hx=>by rw [I6,if_pos (show (i:Int) < ((l.length:Nat):Int) by omega),Z8,hx];simp [A9z]) l 0 false rfl
 simp only [Ar9,Wa,Q0,Kk,Wa,Q0,aN,aB,Avk L l l L hl (by omega),hj,bne_self_eq_false,cond_false,Option.bind_some,Kx]
theorem Awg(L:Nat)(l:List Ap)(hl:l.length≤maxLen)(hL:maxLen < L):K6 L l l=some true:=by
 obtain ⟨j,hj⟩:=Z7 l (H4 L l l) (fun _ _=>rfl) (fun i v x k hi _ hx=>by rw [H4,if_pos (show (i:Int) < ((l.length:Nat):Int) by omega),Z8,hx];simp [A9z]) l 0 false rfl
 simp only [Apc,Uh,N9,K6,Uh,N9,aN,aB,Auj L l l L hl (by omega),hj,bne_self_eq_false,cond_false,Option.bind_some,Kx]
theorem Awh(L:Nat)(l:List Ag)(hl:l.length≤maxLen)(hL:maxLen < L):Uk L l l=some true:=by
 obtain ⟨j,hj⟩:=Z7 l (H5 L l l) (fun _ _=>rfl) (fun i v x k hi _ hx=>by rw [H5,if_pos (show (i:Int) < ((l.length:Nat):Int) by omega),Z8,hx];simp [A9z]) l 0 false rfl
 simp only [Apd,Ui,Oa,Uk,Ui,Oa,aN,aB,Auk L l l L hl (by omega),hj,bne_self_eq_false,cond_false,Option.bind_some,Kx]
theorem Bkp(L:Nat)(a:A9)(hl:a.Terms.length≤maxLen)(hL:maxLen < L):Aan L a a=some true:=by
 obtain ⟨j,hj⟩:=Z7 a.Terms (Lq L a a) (fun _ _=>rfl) (fun i v x k hi _ hx=>by rw [Lq,if_pos (show (i:Int) < ((a.Terms.length:Nat):Int) by omega),Z8,hx];simp [A9z]) a.Terms 0 false rfl
 simp only [Avx,w5,U4,Aan,w5,U4,aN,aB,Azb L a a L hl (by omega),hj,bne_self_eq_false,beq_self_eq_true,Bool.not_true,cond_false,Option.bind_some,Kx]
theorem A48(L:Nat)(s:Aa)(hs:SG s)(a:Ah)(ha:a∈s.Resources)(hL:maxLen < L):K7 L a a=some true:=by
 have hl:a.Shift.length≤maxLen:=(hs.res a ha).2.2.1.1
 have hb:=hs.bkD a ha
 have hM:=Bb
 have d1:okD a.Fault.Up:=by unfold L3 at hb;exact A1s (by omega)
 have d2:okD a.Fault.Down:=by unfold L3 at hb;exact A1s (by omega)
 obtain ⟨j,hj⟩:=Z7 a.Shift (Gw L a a) (fun _ _=>rfl) (fun i v x k hi _ hx=>by rw [Gw,if_pos (show (i:Int) < ((a.Shift.length:Nat):Int) by omega),Z8,hx];simp [A9z]) a.Shift 0 false rfl
 simp only [Al2,Rn,K3,K7,Rn,K3,aN,aB,Arq L a a L hl (by omega),hj,bne_self_eq_false,beq_self_eq_true,Bool.not_true,cond_false,cond_true,Option.bind_some,Kx,Acw L _ _ d1 hL,Acw L _ _ d2 hL,Bpt]
theorem A4w(Cn5:Ab→Ab→Option Bool)(Cn4:(List Ab)→(List Ab)→Option Bool)(L:Nat)(l:List Ab)(hl:∀x∈l,Cn5 x x=some true):∀(k:List Ab) (i:Nat) (v:Bool),l.drop i=k→∃j,Lo Cn5 Cn4 L l l k i v=some (1,(v,j)):=by
 intro k
 induction k with
 |nil=>intro i v _;exact ⟨i,rfl⟩
 |cons x k ih=>
  intro i v h
  obtain ⟨h1,h2,h3⟩:=Pt h
  obtain ⟨j,hj⟩:=ih (i+1) v h3
  have hx:x∈l:=List.mem_of_mem_drop (by rw [h];simp)
  refine ⟨j,?_⟩
  rw [Lo,if_pos (by omega),Z8,h2,hl x hx]
  exact hj
theorem Aup{e:Ab}(h:Bv e):∀L,maxLen+2*dE e < L→Eh L e e=some true:=by
 induction h with
 |mk a0 a1 a2 a3 h0 h1 h2 h3 h4 ih=>
  intro L hL
  have hM:=Bb
  obtain ⟨L,rfl⟩:∃k,L=k+2:=⟨L - 2,by omega⟩
  rw [dE] at hL
  have hr:∀x∈a3,Eh L x x=some true:=fun x hx=>ih x hx L (by have:=Ak9 hx;omega)
  obtain ⟨j,hj⟩:=A4w (Eh L) (Ih L) L a3 hr a3 0 false rfl
  have hA:Ih (L+1) a3 a3=some true:=by
   show Ahq (Eh L) (Ih L) L a3 a3=some true
   simp only [Ahq,Avv,Ahh,q8,aN,aB,Ay9 (Eh L) (Ih L) L a3 a3 L h3 (by omega),hj,Option.bind_some,Kx]
   simp
  show Aqq (Eh (L+1)) (Ih (L+1)) (L+1) (.mk a0 a1 a2 a3) (.mk a0 a1 a2 a3)=some true
  simp only [Aqq,Awv,aN,aB,Ab.cp_eq,Ab.Op,Ab.Name,Ab.N,Ab.Kids,Ab.eta,hA,Option.bind_some]
  simp
theorem Bh6(L:Nat)(l:List Ab)(hl:l.length≤maxLen)(hL:maxLen < L)(h:∀x∈l,Eh L x x=some true):We L l l=some true:=by
 obtain ⟨j,hj⟩:=Z7 l (I5 L l l) (fun _ _=>rfl) (fun i v x k hi hm hx=>by rw [I5,if_pos (show (i:Int) < ((l.length:Nat):Int) by omega),Z8,hx,h x hm];rfl) l 0 false rfl
 simp only [Ar8,V9,Qz,We,V9,Qz,aN,aB,Avj L l l L hl (by omega),hj,bne_self_eq_false,cond_false,Option.bind_some,Kx]
theorem SB.d2{L:Nat}{s:Ad}(h:SB L s):dE s.E≤1048576∧dE s.F≤1048576∧(∀y∈s.Args,dE y≤1048576):=by
 have h1:=h.bk
 rw [←A67] at h1
 have h3:=A7f s.E
 have h4:=A7f s.F
 refine ⟨by omega,by omega,fun y hy=> ?_⟩
 have h6:=A7f y
 have h7:C0 y≤Hd C0 s.Args:=Amy hy
 omega
theorem Bho{l:List Ad}(hl:∀y∈l,B2 y):∀L,Fu L l→9223372036856872959+dSs l < L→Nd L l l=some true:=by
 refine Aa7 (M:=fun l=>∀L,Fu L l→9223372036856872959+dSs l < L→Nd L l l=some true) ?_ hl
 intro l ih L hF hF2
 have hM:=Bb
 obtain ⟨L,rfl⟩:=hF.pos
 obtain ⟨n1,n2,n3⟩:=hF.len
 have hLm:maxLen < L:=by omega
 obtain ⟨j,hj⟩:=Z7 l (Ty (Nd L) L l l) (fun _ _=>rfl) (fun i v x k hi hm hx=>by
  have hs:=hF.sb hm (ih x hm).1
  obtain ⟨_,_,_,d4⟩:=hs.de
  obtain ⟨d1,d2,d3⟩:=hs.d2
  have d5:=Bdi hm
  have h1:=(ih x hm).2.1 L (hF.kid hm).1 (by omega)
  have h2:=(ih x hm).2.2 L (hF.kid hm).2 (by omega)
  have e1:Eh L x.E x.E=some true:=Aup hs.e L (by rw [Bb];omega)
  have e2:Eh L x.F x.F=some true:=Aup hs.f L (by rw [Bb];omega)
  have e3:=Bh6 L x.Args (by omega) hLm fun y hy=>Aup (hs.args y hy) L (by have:=d3 y hy;rw [Bb];omega)
  rw [Ty,if_pos (show (i:Int) < ((l.length:Nat):Int) by omega)]
  simp only [Z8,hx,e1,e2,e3,Acw L _ _ hs.dist hs.lt,Bpt,h1,h2,Option.bind_some,bne_self_eq_false,beq_self_eq_true,Bool.not_true,cond_false]) l 0 false rfl
 simp only [A6s,Aiq,Aaw,Awn,Nd,Aiq,Aaw,aN,aB,A72 (Nd L) L l l L n1 n2,hj,bne_self_eq_false,cond_false,Option.bind_some,Kx]
theorem Bd6{l:List Ad}(hl:∀y∈l,B2 y)(hb:D3 l≤1048576)(L:Nat)(hL:Ti≤L):Nd L l l=some true:=by
 have h1:=Aw7 l
 refine Bho hl L (Au8 hL hb) ?_
 unfold Ti at hL
 rw [Bb] at hL
 omega
theorem Bib(L:Nat)(s:Aa)(h:SG s)(hL:Ti≤L):Yw L s s=some true:=by
 have hl:=Ow hL
 have hM:=Bb
 obtain ⟨n1,n2,n3,n4,n5,n6,n7,n8,n9,n10⟩:=h.ln
 have n11:=h.starts.1
 have n12:=h.laws.1
 obtain ⟨j1,q1⟩:=Z7 s.Resources (J5 L s s) (fun _ _=>rfl) (fun i v x k hi hm hx=>by
  rw [J5,if_pos (show (i:Int) < ((s.Resources.length:Nat):Int) by omega)]
  simp only [Z8,hx]
  rw [show K7 L _ _=some true from A48 L s h x hm hl];rfl) s.Resources 0 false rfl
 obtain ⟨j2,q2⟩:=Z7 s.Stores (J6 L s s) (fun _ _=>rfl) (fun i v x k hi _ hx=>by rw [J6,if_pos (show (i:Int) < ((s.Stores.length:Nat):Int) by omega),Z8,hx];simp [A9z]) s.Stores 0 false rfl
 obtain ⟨j3,q3⟩:=Z7 s.Belts (J7 L s s) (fun _ _=>rfl) (fun i v x k hi _ hx=>by rw [J7,if_pos (show (i:Int) < ((s.Belts.length:Nat):Int) by omega),Z8,hx];simp [A9z]) s.Belts 0 false rfl
 obtain ⟨j4,q4⟩:=Z7 s.Routines (J8 L s s) (fun _ _=>rfl) (fun i v x k hi hm hx=>by
  have hro:=h.routs x hm
  obtain ⟨b1,b2,b3⟩:=Ajn (h.bkR x hm)
  rw [J8,if_pos (show (i:Int) < ((s.Routines.length:Nat):Int) by omega)]
  simp only [Z8,hx,Awg L x.Params (by omega) hl,Awg L x.Locals (by omega) hl,Bd6 (show∀y∈x.Body,B2 y from hro.2.2.2.2) b3 L hL,beq_self_eq_true,Bool.not_true,cond_false,Option.bind_some]) s.Routines 0 false rfl
 obtain ⟨j5,q5⟩:=Z7 s.Starts (J9 L s s) (fun _ _=>rfl) (fun i v x k hi hm hx=>by
  have hst:=h.starts.2 x hm
  rw [J9,if_pos (show (i:Int) < ((s.Starts.length:Nat):Int) by omega)]
  simp only [Z8,hx,Bic L x.Args hst.2.1.1 hl,beq_self_eq_true,bne_self_eq_false,Bool.not_true,cond_false,Option.bind_some]) s.Starts 0 false rfl
 obtain ⟨j6,q6⟩:=Z7 s.Laws (Ka L s s) (fun _ _=>rfl) (fun i v x k hi hm hx=>by
  have hla:=h.laws.2 x hm
  rw [Ka,if_pos (show (i:Int) < ((s.Laws.length:Nat):Int) by omega)]
  simp only [Z8,hx,Bkp L x hla.2.1.1 hl,Bool.not_true,cond_false,Option.bind_some]) s.Laws 0 false rfl
 simp only [Atl,Yb,Xx,Yc,Xy,Yd,Xz,Ye,X0,Yf,X1,Yg,S0,Yw,Yb,Xx,Yc,Xy,Yd,Xz,Ye,X0,Yf,X1,Yg,S0,aN,aB,beq_self_eq_true,bne_self_eq_false,Bool.not_true,cond_false,Option.bind_some,Awh L s.Vars n1 hl,Aep L s.Queues n5 hl,Aep L s.Streams n6 hl,Aep L s.Tallies n7 hl,Aep L s.Levels n8 hl,Aep L s.Counts n9 hl,
  Axi L s s L n2 (by omega),q1,Kx,Axj L s s L n3 (by omega),q2,Axk L s s L n4 (by omega),q3,Axl L s s L n10 (by omega),q4,Axm L s s L n11 (by omega),q5,Axn L s s L n12 (by omega),q6]
theorem B6s(L:Nat)(m:Ac)(h:MG m)(hL:Ti≤L):Alv L m m=some true:=by
 have hl:=Ow hL
 have hM:=Bb
 have n1:m.Params.length≤maxLen:=h.ok.2.1.1
 have n2:=h.sites
 have n3:=h.links
 obtain ⟨j1,q1⟩:=Z7 m.Sites (T2 L m m) (fun _ _=>rfl) (fun i v x k hi hm hx=>by
  rw [T2,if_pos (show (i:Int) < ((m.Sites.length:Nat):Int) by omega)]
  simp only [Z8,hx,Bib L x (h.site x hm) hL,Bool.not_true,cond_false,Option.bind_some]) m.Sites 0 false rfl
 obtain ⟨j2,q2⟩:=Z7 m.Links (T3 L m m) (fun _ _=>rfl) (fun i v x k hi _ hx=>by rw [T3,if_pos (show (i:Int) < ((m.Links.length:Nat):Int) by omega),Z8,hx];simp [A9z]) m.Links 0 false rfl
 simp only [A6x,Ait,Aik,Aiu,Aa2,Alv,Ait,Aik,Aiu,Aa2,aN,aB,beq_self_eq_true,bne_self_eq_false,Bool.not_true,cond_false,Option.bind_some,Awh L m.Params n1 hl,A78 L m m L n2 (by omega),q1,Kx,A79 L m m L n3 (by omega),q2]
end Go.Proofs.YtofcpkmnhmnfcaaGreatR.Ev
namespace Go.Proofs.YtofcpkmnhmnfcaaGreatR.Ev
open Go An
set_option maxRecDepth 100000
set_option linter.unusedVariables false
set_option linter.unusedSimpArgs false
set_option linter.unnecessarySimpa false
def Bh1(ps:List Ag):List Ae:=ps.map fun p=>⟨p.Name,p.N⟩
theorem Az2(L:Nat)(m:Ac):∀(k:List Ag) (i:Nat) (v:List Ae),v.length+k.length≤1048576→∃j,Hk L m k i v=some (0,(v++Bh1 k,j)):=by
 intro k
 induction k with
 |nil=>intro i v _;exact ⟨i,by rw [Hk,Bh1,List.map_nil,List.append_nil]⟩
 |cons x k ih=>
  intro i v h
  have hM:=Bb
  rw [List.length_cons] at h
  obtain ⟨j,hj⟩:=ih (i+1) (v++ [⟨x.Name,x.N⟩]) (by simp only [List.length_append,List.length_cons,List.length_nil];omega)
  refine ⟨j,?_⟩
  rw [Hk]
  simp only [List.length_cons,List.length_nil]
  repeat rw [ifp (by omega)]
  rw [hj,List.append_assoc];rfl
theorem A1u(L:Nat)(m:Ac)(h:m.Params.length≤1048576)(hL:maxLen < L):Wf L m=some (Bh1 m.Params):=by
 have hM:=Bb
 obtain ⟨j,hj⟩:=Az2 L m m.Params 0 [] (by simpa using h)
 simp only [Asa,Ra,Wf,Ra,aN,aB,Avl L m L (by omega) (by omega),hj,Option.bind_some,Gm,List.nil_append]
theorem Acv.refl(p:List Ag):Acv p p:=rfl
theorem Acv.trans{p q r:List Ag}(h1:Acv p q)(h2:Acv q r):Acv p r:=Eq.trans h1 h2
theorem Bbx{p:List Ag}(g:Nat)(hg:g < p.length)(n:Int):Acv (p.set g ⟨(p.getD g default).Name,(p.getD g default).Type_,n⟩) p:=by
 unfold Acv
 rw [List.map_set]
 have e:((p.getD g default).Name,(p.getD g default).Type_)=(p.map fun x=>(x.Name,x.Type_))[g]'(by rw [List.length_map];exact hg):=by rw [List.getElem_map,Hb p g hg]
 show (p.map fun x=>(x.Name,x.Type_)).set g ((p.getD g default).Name,(p.getD g default).Type_)=_
 rw [e,List.set_getElem_self]
theorem Bbd{a:List Ae}{i:Nat}{ps:List Ag}{x:Ae}{k:List Ae}(h:(Ur a i ps (x::k)).1=0):
  ∃g,(ps.findIdx? fun p=>decide (p.Name=x.Name))=some g∧g < ps.length∧A3d (ps.getD g default).Type_ x.N=true∧Ur a i ps (x::k)=Ur a (i+1) (ps.set g ⟨(ps.getD g default).Name,(ps.getD g default).Type_,x.N⟩) k:=by
 rw [Ur] at h ⊢
 cases hq:ps.findIdx? fun p=>decide (p.Name=x.Name) with
 |none=>rw [hq] at h;cases h
 |some g=>
  rw [hq] at h
  simp only at h ⊢
  cases ha:(a.take i).any fun y=>decide (y.Name=x.Name) with
  |true=>rw [ha] at h;cases h
  |false=>
   rw [ha] at h
   simp only [Bool.false_eq_true,if_false] at h ⊢
   cases hf:A3d (ps.getD g default).Type_ x.N with
   |false=>rw [hf] at h;cases h
   |true=>exact ⟨g,rfl,Aj1 hq,hf,by simp only [Bool.true_eq_false,if_false]⟩
theorem Bsb(a:List Ae):∀(k:List Ae) (i:Nat) (ps:List Ag),(Ur a i ps k).1=0→Acv (Ur a i ps k).2 ps:=by
 intro k
 induction k with
 |nil=>intro i ps _;exact Acv.refl ps
 |cons x k ih=>
  intro i ps h
  obtain ⟨g,hg,hl,hf,e⟩:=Bbd h
  rw [e] at h ⊢
  exact Acv.trans (ih _ _ h) (Bbx g hl x.N)
end Go.Proofs.YtofcpkmnhmnfcaaGreatR.Ev
