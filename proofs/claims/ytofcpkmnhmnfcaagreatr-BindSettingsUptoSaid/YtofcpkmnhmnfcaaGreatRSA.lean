/-  Chapter 11, plainly: a model is the same as itself. -/
import Derived.Test.YtofcpkmnhmnfcaaGreatRQA
import Derived.Test.YtofcpkmnhmnfcaaGreatRCH
import Derived.Test.YtofcpkmnhmnfcaaGreatRDk
namespace Go.Proofs.YtofcpkmnhmnfcaaGreatR.Ev
open Go An
set_option maxRecDepth 100000
set_option linter.unusedVariables false
set_option linter.unusedSimpArgs false
set_option linter.unnecessarySimpa false
theorem Xn{α :Type} [Inhabited α](l:List α)(lq:List α→Nat→Bool→Option (Nat×(Bool×Int)))(h0:∀(i:Nat) (v:Bool),lq [] i v=some (1,(v,(i:Int))))
  (h1:∀(i:Nat) (v:Bool) (x: α) (k:List α),i < l.length→x∈l→l.getD i default=x→lq (x::k) i v=lq k (i+1) v):∀(k:List α) (i:Nat) (v:Bool),l.drop i=k→∃j:Int,lq k i v=some (1,(v,j)):=by
 intro k
 induction k with
 |nil=>intro i v _;exact ⟨i,h0 i v⟩
 |cons x k ih=>
  intro i v h
  obtain ⟨hi,hx,hk⟩:=Rk h
  obtain ⟨j,hj⟩:=ih (i+1) v hk
  exact ⟨j,by rw [h1 i v x k hi (by rw [←hx,Iu _ i hi];exact List.getElem_mem hi) hx];exact hj⟩
theorem Bof(a b:ByteArray):(a == b)=decide (a=b):=by
 by_cases h:a=b
 ·subst h
  rw [decide_eq_true rfl]
  cases a with|mk x=>show (x == x)=true;exact beq_self_eq_true x
 ·rw [decide_eq_false h]
  cases a with|mk x=>cases b with|mk y=>
   show (x == y)=false
   exact beq_eq_false_iff_ne.2 fun e=>h (by rw [e])
instance decSet:DecidableEq Ae:=fun a b=>decidable_of_iff (a.Name=b.Name∧a.N=b.N) (by cases a;cases b;simp)
theorem A7j(a:ByteArray):(a == a)=true:=by rw [Bof];exact decide_eq_true rfl
theorem Bjc(d:Bm):Ajt d d=true:=by simp [Ajt]
theorem Bbs(L:Nat)(l:List Int)(hl:l.length≤maxLen)(hL:maxLen < L):Vb L l l=some true:=by
 obtain ⟨j,hj⟩:=Xn l (Jk L l l) (fun _ _=>rfl) (fun i v x k hi _ hx=>by rw [Jk,if_pos (show (i:Int) < ((l.length:Nat):Int) by omega),toN,hx];simp [A7j]) l 0 false rfl
 simp only [Amr,Ux,P6,Vb,Ux,P6,aN,aB,Asg L l l L hl (by omega),hj,bne_self_eq_false,cond_false,Option.bind_some,Sr]
theorem l8(L:Nat)(l:List ByteArray)(hl:l.length≤maxLen)(hL:maxLen < L):Js L l l=some true:=by
 obtain ⟨j,hj⟩:=Xn l (Ih L l l) (fun _ _=>rfl) (fun i v x k hi _ hx=>by rw [Ih,if_pos (show (i:Int) < ((l.length:Nat):Int) by omega),toN,hx];simp [A7j]) l 0 false rfl
 simp only [Alh,Sx,N6,Js,Sx,N6,aN,aB,Apm L l l L hl (by omega),hj,bne_self_eq_false,cond_false,Option.bind_some,Sr]
theorem Aqx(L:Nat)(l:List Ao)(hl:l.length≤maxLen)(hL:maxLen < L):Kf L l l=some true:=by
 obtain ⟨j,hj⟩:=Xn l (Hd L l l) (fun _ _=>rfl) (fun i v x k hi _ hx=>by rw [Hd,if_pos (show (i:Int) < ((l.length:Nat):Int) by omega),toN,hx];simp [A7j]) l 0 false rfl
 simp only [Air,Q0,Mp,Kf,Q0,Mp,aN,aB,An0 L l l L hl (by omega),hj,bne_self_eq_false,cond_false,Option.bind_some,Sr]
theorem Aqy(L:Nat)(l:List Ag)(hl:l.length≤maxLen)(hL:maxLen < L):Rc L l l=some true:=by
 obtain ⟨j,hj⟩:=Xn l (He L l l) (fun _ _=>rfl) (fun i v x k hi _ hx=>by rw [He,if_pos (show (i:Int) < ((l.length:Nat):Int) by omega),toN,hx];simp [A7j]) l 0 false rfl
 simp only [Ais,Ra,Mq,Rc,Ra,Mq,aN,aB,An1 L l l L hl (by omega),hj,bne_self_eq_false,cond_false,Option.bind_some,Sr]
theorem Bd3(L:Nat)(a:Az)(hl:a.Terms.length≤maxLen)(hL:maxLen < L):Xq L a a=some true:=by
 obtain ⟨j,hj⟩:=Xn a.Terms (Kx L a a) (fun _ _=>rfl) (fun i v x k hi _ hx=>by rw [Kx,if_pos (show (i:Int) < ((a.Terms.length:Nat):Int) by omega),toN,hx];simp [A7j]) a.Terms 0 false rfl
 simp only [Ap4,Wy,Rr,Xq,Wy,Rr,aN,aB,Auc L a a L hl (by omega),hj,bne_self_eq_false,beq_self_eq_true,Bool.not_true,cond_false,Option.bind_some,Sr]
theorem Azz(L:Nat)(s:Aa)(hs:SG s)(a:Ah)(ha:a∈s.Resources)(hL:maxLen < L):Kg L a a=some true:=by
 have hl:a.Shift.length≤maxLen:=(hs.res a ha).2.2.1.1
 have hb:=hs.bkD a ha
 have hM:=Bx
 have d1:okD a.Fault.Up:=by unfold Px at hb;exact A79 (by omega)
 have d2:okD a.Fault.Down:=by unfold Px at hb;exact A79 (by omega)
 obtain ⟨j,hj⟩:=Xn a.Shift (Gb L a a) (fun _ _=>rfl) (fun i v x k hi _ hx=>by rw [Gb,if_pos (show (i:Int) < ((a.Shift.length:Nat):Int) by omega),toN,hx];simp [A7j]) a.Shift 0 false rfl
 simp only [Aek,Ol,Kd,Kg,Ol,Kd,aN,aB,Ak1 L a a L hl (by omega),hj,bne_self_eq_false,beq_self_eq_true,Bool.not_true,cond_false,cond_true,Option.bind_some,Sr,An5 L _ _ d1 hL,An5 L _ _ d2 hL,Bjc]
theorem Azo(Chv:Ab→Ab→Option Bool)(Chu:(List Ab)→(List Ab)→Option Bool)(L:Nat)(l:List Ab)(hl:∀x∈l,Chv x x=some true):∀(k:List Ab) (i:Nat) (v:Bool),l.drop i=k→∃j,Kw Chv Chu L l l k i v=some (1,(v,j)):=by
 intro k
 induction k with
 |nil=>intro i v _;exact ⟨i,rfl⟩
 |cons x k ih=>
  intro i v h
  obtain ⟨h1,h2,h3⟩:=Rk h
  obtain ⟨j,hj⟩:=ih (i+1) v h3
  have hx:x∈l:=List.mem_of_mem_drop (by rw [h];simp)
  refine ⟨j,?_⟩
  rw [Kw,if_pos (by omega),toN,h2,hl x hx]
  exact hj
theorem An6{e:Ab}(h:Cn e):∀L,maxLen+2*dE e < L→D4 L e e=some true:=by
 induction h with
 |mk a0 a1 a2 a3 h0 h1 h2 h3 h4 ih=>
  intro L hL
  have hM:=Bx
  obtain ⟨L,rfl⟩:∃k,L=k+2:=⟨L - 2,by omega⟩
  rw [dE] at hL
  have hr:∀x∈a3,D4 L x x=some true:=fun x hx=>ih x hx L (by have:=Ao8 hx;omega)
  obtain ⟨j,hj⟩:=Azo (D4 L) (Hn L) L a3 hr a3 0 false rfl
  have hA:Hn (L+1) a3 a3=some true:=by
   show Aba (D4 L) (Hn L) L a3 a3=some true
   simp only [Aba,Ap2,Aa1,We,aN,aB,Aub (D4 L) (Hn L) L a3 a3 L h3 (by omega),hj,Option.bind_some,Sr]
   simp
  show Aj6 (D4 (L+1)) (Hn (L+1)) (L+1) (.mk a0 a1 a2 a3) (.mk a0 a1 a2 a3)=some true
  simp only [Aj6,Ars,aN,aB,Ab.cp_eq,Ab.Op,Ab.Name,Ab.N,Ab.Kids,Ab.eta,hA,Option.bind_some]
  simp
theorem Bbm(L:Nat)(l:List Ab)(hl:l.length≤maxLen)(hL:maxLen < L)(h:∀x∈l,D4 L x x=some true):S1 L l l=some true:=by
 obtain ⟨j,hj⟩:=Xn l (Ig L l l) (fun _ _=>rfl) (fun i v x k hi hm hx=>by rw [Ig,if_pos (show (i:Int) < ((l.length:Nat):Int) by omega),toN,hx,h x hm];rfl) l 0 false rfl
 simp only [Alg,Sw,N5,S1,Sw,N5,aN,aB,Apl L l l L hl (by omega),hj,bne_self_eq_false,cond_false,Option.bind_some,Sr]
theorem SB.d2{L:Nat}{s:Ad}(h:SB L s):dE s.E≤1048576∧dE s.F≤1048576∧(∀y∈s.Args,dE y≤1048576):=by
 have h1:=h.bk
 rw [←A19] at h1
 have h3:=A2g s.E
 have h4:=A2g s.F
 refine ⟨by omega,by omega,fun y hy=> ?_⟩
 have h6:=A2g y
 have h7:C0 y≤Gh C0 s.Args:=Agi hy
 omega
theorem Bbh{l:List Ad}(hl:∀y∈l,Ct y):∀L,Fu L l→9223372036856872959+dSs l < L→Lx L l l=some true:=by
 refine Aju (M:=fun l=>∀L,Fu L l→9223372036856872959+dSs l < L→Lx L l l=some true) ?_ hl
 intro l ih L hF hF2
 have hM:=Bx
 obtain ⟨L,rfl⟩:=hF.pos
 obtain ⟨n1,n2,n3⟩:=hF.len
 have hLm:maxLen < L:=by omega
 obtain ⟨j,hj⟩:=Xn l (Qn (Lx L) L l l) (fun _ _=>rfl) (fun i v x k hi hm hx=>by
  have hs:=hF.sb hm (ih x hm).1
  obtain ⟨_,_,_,d4⟩:=hs.de
  obtain ⟨d1,d2,d3⟩:=hs.d2
  have d5:=A7q hm
  have h1:=(ih x hm).2.1 L (hF.kid hm).1 (by omega)
  have h2:=(ih x hm).2.2 L (hF.kid hm).2 (by omega)
  have e1:D4 L x.E x.E=some true:=An6 hs.e L (by rw [Bx];omega)
  have e2:D4 L x.F x.F=some true:=An6 hs.f L (by rw [Bx];omega)
  have e3:=Bbm L x.Args (by omega) hLm fun y hy=>An6 (hs.args y hy) L (by have:=d3 y hy;rw [Bx];omega)
  rw [Qn,if_pos (show (i:Int) < ((l.length:Nat):Int) by omega)]
  simp only [toN,hx,e1,e2,e3,An5 L _ _ hs.dist hs.lt,Bjc,h1,h2,Option.bind_some,bne_self_eq_false,beq_self_eq_true,Bool.not_true,cond_false]) l 0 false rfl
 simp only [A1v,Abv,Xy,Arl,Lx,Abv,Xy,aN,aB,A27 (Lx L) L l l L n1 n2,hj,bne_self_eq_false,cond_false,Option.bind_some,Sr]
theorem A8b{l:List Ad}(hl:∀y∈l,Ct y)(hb:Ds l≤1048576)(L:Nat)(hL:U5≤L):Lx L l l=some true:=by
 have h1:=Avl l
 refine Bbh hl L (Az9 hL hb) ?_
 unfold U5 at hL
 rw [Bx] at hL
 omega
theorem Bbr(L:Nat)(s:Aa)(h:SG s)(hL:U5≤L):Va L s s=some true:=by
 have hl:=Vu hL
 have hM:=Bx
 obtain ⟨n1,n2,n3,n4,n5,n6,n7,n8,n9,n10⟩:=h.ln
 have n11:=h.starts.1
 have n12:=h.laws.1
 obtain ⟨j1,q1⟩:=Xn s.Resources (Je L s s) (fun _ _=>rfl) (fun i v x k hi hm hx=>by
  rw [Je,if_pos (show (i:Int) < ((s.Resources.length:Nat):Int) by omega)]
  simp only [toN,hx]
  rw [show Kg L _ _=some true from Azz L s h x hm hl];rfl) s.Resources 0 false rfl
 obtain ⟨j2,q2⟩:=Xn s.Stores (Jf L s s) (fun _ _=>rfl) (fun i v x k hi _ hx=>by rw [Jf,if_pos (show (i:Int) < ((s.Stores.length:Nat):Int) by omega),toN,hx];simp [A7j]) s.Stores 0 false rfl
 obtain ⟨j3,q3⟩:=Xn s.Belts (Jg L s s) (fun _ _=>rfl) (fun i v x k hi _ hx=>by rw [Jg,if_pos (show (i:Int) < ((s.Belts.length:Nat):Int) by omega),toN,hx];simp [A7j]) s.Belts 0 false rfl
 obtain ⟨j4,q4⟩:=Xn s.Routines (Jh L s s) (fun _ _=>rfl) (fun i v x k hi hm hx=>by
  have hro:=h.routs x hm
  obtain ⟨b1,b2,b3⟩:=Aoc (h.bkR x hm)
  rw [Jh,if_pos (show (i:Int) < ((s.Routines.length:Nat):Int) by omega)]
  simp only [toN,hx,Aqx L x.Params (by omega) hl,Aqx L x.Locals (by omega) hl,A8b (show∀y∈x.Body,Ct y from hro.2.2.2.2) b3 L hL,beq_self_eq_true,Bool.not_true,cond_false,Option.bind_some]) s.Routines 0 false rfl
 obtain ⟨j5,q5⟩:=Xn s.Starts (Ji L s s) (fun _ _=>rfl) (fun i v x k hi hm hx=>by
  have hst:=h.starts.2 x hm
  rw [Ji,if_pos (show (i:Int) < ((s.Starts.length:Nat):Int) by omega)]
  simp only [toN,hx,Bbs L x.Args hst.2.1.1 hl,beq_self_eq_true,bne_self_eq_false,Bool.not_true,cond_false,Option.bind_some]) s.Starts 0 false rfl
 obtain ⟨j6,q6⟩:=Xn s.Laws (Jj L s s) (fun _ _=>rfl) (fun i v x k hi hm hx=>by
  have hla:=h.laws.2 x hm
  rw [Jj,if_pos (show (i:Int) < ((s.Laws.length:Nat):Int) by omega)]
  simp only [toN,hx,Bd3 L x hla.2.1.1 hl,Bool.not_true,cond_false,Option.bind_some]) s.Laws 0 false rfl
 simp only [Amo,Ur,Ug,Us,Uh,Ut,Ui,Uu,Uj,Uv,Uk,Uw,P5,Va,Ur,Ug,Us,Uh,Ut,Ui,Uu,Uj,Uv,Uk,Uw,P5,aN,aB,beq_self_eq_true,bne_self_eq_false,Bool.not_true,cond_false,Option.bind_some,Aqy L s.Vars n1 hl,l8 L s.Queues n5 hl,l8 L s.Streams n6 hl,l8 L s.Tallies n7 hl,l8 L s.Levels n8 hl,l8 L s.Counts n9 hl,
  Asa L s s L n2 (by omega),q1,Sr,Asb L s s L n3 (by omega),q2,Asc L s s L n4 (by omega),q3,Asd L s s L n10 (by omega),q4,Ase L s s L n11 (by omega),q5,Asf L s s L n12 (by omega),q6]
theorem B0i(L:Nat)(m:Ac)(h:MG m)(hL:U5≤L):Aef L m m=some true:=by
 have hl:=Vu hL
 have hM:=Bx
 have n1:m.Params.length≤maxLen:=h.ok.2.1.1
 have n2:=h.sites
 have n3:=h.links
 obtain ⟨j1,q1⟩:=Xn m.Sites (Qq L m m) (fun _ _=>rfl) (fun i v x k hi hm hx=>by
  rw [Qq,if_pos (show (i:Int) < ((m.Sites.length:Nat):Int) by omega)]
  simp only [toN,hx,Bbr L x (h.site x hm) hL,Bool.not_true,cond_false,Option.bind_some]) m.Sites 0 false rfl
 obtain ⟨j2,q2⟩:=Xn m.Links (Qr L m m) (fun _ _=>rfl) (fun i v x k hi _ hx=>by rw [Qr,if_pos (show (i:Int) < ((m.Links.length:Nat):Int) by omega),toN,hx];simp [A7j]) m.Links 0 false rfl
 simp only [A1z,Abx,Abs,Aby,X1,Aef,Abx,Abs,Aby,X1,aN,aB,beq_self_eq_true,bne_self_eq_false,Bool.not_true,cond_false,Option.bind_some,Aqy L m.Params n1 hl,A3a L m m L n2 (by omega),q1,Sr,A3b L m m L n3 (by omega),q2]
end Go.Proofs.YtofcpkmnhmnfcaaGreatR.Ev
namespace Go.Proofs.YtofcpkmnhmnfcaaGreatR.Ev
open Go An
set_option maxRecDepth 100000
set_option linter.unusedVariables false
set_option linter.unusedSimpArgs false
set_option linter.unnecessarySimpa false
def Zp(ps:List Ag):List Ae:=ps.map fun p=>⟨p.Name,p.N⟩
theorem Au0(L:Nat)(m:Ac):∀(k:List Ag) (i:Nat) (v:List Ae),v.length+k.length≤1048576→∃j,Gn L m k i v=some (0,(v++Zp k,j)):=by
 intro k
 induction k with
 |nil=>intro i v _;exact ⟨i,by rw [Gn,Zp,List.map_nil,List.append_nil]⟩
 |cons x k ih=>
  intro i v h
  have hM:=Bx
  rw [List.length_cons] at h
  obtain ⟨j,hj⟩:=ih (i+1) (v++ [⟨x.Name,x.N⟩]) (by simp only [List.length_append,List.length_cons,List.length_nil];omega)
  refine ⟨j,?_⟩
  rw [Gn]
  simp only [List.length_cons,List.length_nil]
  repeat rw [ifp (by omega)]
  rw [hj,List.append_assoc];rfl
theorem Aws(L:Nat)(m:Ac)(h:m.Params.length≤1048576)(hL:maxLen < L):S2 L m=some (Zp m.Params):=by
 have hM:=Bx
 obtain ⟨j,hj⟩:=Au0 L m m.Params 0 [] (by simpa using h)
 simp only [Ali,N7,S2,N7,aN,aB,Apn L m L (by omega) (by omega),hj,Option.bind_some,Nb,List.nil_append]
theorem Xv.refl(p:List Ag):Xv p p:=rfl
theorem Xv.trans{p q r:List Ag}(h1:Xv p q)(h2:Xv q r):Xv p r:=Eq.trans h1 h2
theorem A52{p:List Ag}(g:Nat)(hg:g < p.length)(n:Int):Xv (p.set g ⟨(p.getD g default).Name,(p.getD g default).Type_,n⟩) p:=by
 unfold Xv
 rw [List.map_set]
 have e:((p.getD g default).Name,(p.getD g default).Type_)=(p.map fun x=>(x.Name,x.Type_))[g]'(by rw [List.length_map];exact hg):=by rw [List.getElem_map,Iu p g hg]
 show (p.map fun x=>(x.Name,x.Type_)).set g ((p.getD g default).Name,(p.getD g default).Type_)=_
 rw [e,List.set_getElem_self]
theorem Ao7{a:List Ae}{i:Nat}{ps:List Ag}{x:Ae}{k:List Ae}(h:(Oq a i ps (x::k)).1=0):
  ∃g,(ps.findIdx? fun p=>decide (p.Name=x.Name))=some g∧g < ps.length∧At1 (ps.getD g default).Type_ x.N=true∧Oq a i ps (x::k)=Oq a (i+1) (ps.set g ⟨(ps.getD g default).Name,(ps.getD g default).Type_,x.N⟩) k:=by
 rw [Oq] at h ⊢
 cases hq:ps.findIdx? fun p=>decide (p.Name=x.Name) with
 |none=>rw [hq] at h;cases h
 |some g=>
  rw [hq] at h
  simp only at h ⊢
  cases ha:(a.take i).any fun y=>decide (y.Name=x.Name) with
  |true=>rw [ha] at h;cases h
  |false=>
   rw [ha] at h
   simp only [Bool.false_eq_true,if_false] at h ⊢
   cases hf:At1 (ps.getD g default).Type_ x.N with
   |false=>rw [hf] at h;cases h
   |true=>exact ⟨g,rfl,Akx hq,hf,by simp only [Bool.true_eq_false,if_false]⟩
theorem Blw(a:List Ae):∀(k:List Ae) (i:Nat) (ps:List Ag),(Oq a i ps k).1=0→Xv (Oq a i ps k).2 ps:=by
 intro k
 induction k with
 |nil=>intro i ps _;exact Xv.refl ps
 |cons x k ih=>
  intro i ps h
  obtain ⟨g,hg,hl,hf,e⟩:=Ao7 h
  rw [e] at h ⊢
  exact Xv.trans (ih _ _ h) (A52 g hl x.N)
def B5b(ps:List Ag):Prop:=∀p∈ps,At1 p.Type_ p.N=true
theorem Bob(a:List Ae):∀(k:List Ae) (i:Nat) (ps:List Ag),B5b ps→(Oq a i ps k).1=0→B5b (Oq a i ps k).2:=by
 intro k
 induction k with
 |nil=>intro i ps hp _;exact hp
 |cons x k ih=>
  intro i ps hp h
  obtain ⟨g,hg,hl,hf,e⟩:=Ao7 h
  rw [e] at h ⊢
  refine ih _ _ (fun p hpm=> ?_) h
  rcases List.mem_or_eq_of_mem_set hpm with h1|h1
  ·exact hp p h1
  ·subst h1;exact hf
def A6q(n:ByteArray):Int→List Ae→Int
 |w,[]=>w
 |w,s::k=>A6q n (if s.Name=n then s.N else w) k
theorem Bdt{ps:List Ag}(hn:(ps.map fun x=>x.Name).Nodup){i j:Nat}(hi:i < ps.length)(hj:j < ps.length)(h:(ps.getD i default).Name=(ps.getD j default).Name):i=j:=by
 rw [Iu ps i hi,Iu ps j hj] at h
 have hi':i < (ps.map fun x=>x.Name).length:=by rw [List.length_map];exact hi
 have hj':j < (ps.map fun x=>x.Name).length:=by rw [List.length_map];exact hj
 exact (List.getElem_inj (h₀ :=hi') (h₁ :=hj') hn).1 (by rw [List.getElem_map,List.getElem_map];exact h)
theorem A2u{ps:List Ag}{n:ByteArray}{g:Nat}(h:(ps.findIdx? fun p=>decide (p.Name=n))=some g):(ps.getD g default).Name=n:=by
 have hg:=Akx h
 have h1:=Aiz (fun p:Ag=>decide (p.Name=n)) ps
 rw [h] at h1
 have h2:=List.find?_some h1
 exact of_decide_eq_true h2
theorem Bwp{α :Type} [Inhabited α](l:List α)(g j:Nat)(x: α)(h:g≠j):(l.set g x).getD j default=l.getD j default:=by
 simp [List.getD,List.getElem?_set_ne h]
theorem Bwo{α :Type} [Inhabited α](l:List α)(g:Nat)(x: α)(h:g < l.length):(l.set g x).getD g default=x:=by
 simp [List.getD,h]
theorem Blx(a:List Ae):∀(k:List Ae) (i:Nat) (ps:List Ag),(ps.map fun x=>x.Name).Nodup→(Oq a i ps k).1=0→∀j,j < ps.length→((Oq a i ps k).2.getD j default).N=A6q (ps.getD j default).Name (ps.getD j default).N k:=by
 intro k
 induction k with
 |nil=>intro i ps _ _ j _;rfl
 |cons x k ih=>
  intro i ps hn h j hj
  obtain ⟨g,hg,hl,hf,e⟩:=Ao7 h
  rw [e] at h ⊢
  have hk:=A52 g hl x.N
  have hn':=Ar8 hk
  have h1:=ih (i+1) _ (by rw [hn'];exact hn) h j (by rw [List.length_set];exact hj)
  rw [h1,A6q]
  by_cases hgj:g=j
  ·subst hgj
   rw [Bwo _ _ _ hl,if_pos (A2u hg).symm]
  ·rw [Bwp _ _ _ _ hgj,if_neg fun hx=>hgj (Bdt hn hl hj (by rw [A2u hg,hx]))]
theorem Bxw{ps:List Ag}(hn:(ps.map fun x=>x.Name).Nodup)(i:Nat)(hi:i < ps.length):(ps.findIdx? fun p=>decide (p.Name=(ps.getD i default).Name))=some i:=by
 cases h:ps.findIdx? fun p=>decide (p.Name=(ps.getD i default).Name) with
 |none=>
  have h1:=List.findIdx?_eq_none_iff.1 h (ps.getD i default) (by rw [Iu ps i hi];exact List.getElem_mem hi)
  rw [decide_eq_true rfl] at h1
  cases h1
 |some g=>rw [Bdt hn (Akx h) hi (A2u h)]
theorem A8g(ps:List Ag)(i:Nat)(hi:i < ps.length):(Zp ps).getD i default=⟨(ps.getD i default).Name,(ps.getD i default).N⟩:=by
 rw [Iu _ i (by simpa [Zp] using hi),Iu ps i hi]
 simp [Zp]
theorem Boc{ps:List Ag}(hn:(ps.map fun x=>x.Name).Nodup)(hp:B5b ps):∀(k:List Ae) (i:Nat),(Zp ps).drop i=k→Oq (Zp ps) i ps k=(0,ps):=by
 intro k
 induction k with
 |nil=>intro i _;rfl
 |cons x k ih=>
  intro i h
  obtain ⟨hi,hx,hk⟩:=Rk h
  have hi':i < ps.length:=by simpa [Zp] using hi
  rw [A8g ps i hi'] at hx
  subst hx
  have hm:ps.getD i default∈ps:=by rw [Iu ps i hi'];exact List.getElem_mem hi'
  have ha:((Zp ps).take i).any (fun y=>decide (y.Name=(ps.getD i default).Name))=false:=Bool.eq_false_iff.2 fun hh=>by
   obtain ⟨y,hy,he⟩:=List.any_eq_true.1 hh
   have he:=of_decide_eq_true he
   obtain ⟨j,hj,hjy⟩:=List.getElem_of_mem hy
   rw [List.length_take] at hj
   rw [List.getElem_take] at hjy
   have hj':j < ps.length:=by omega
   have h5:=A8g ps j hj'
   rw [Iu _ j (by simpa [Zp] using hj'),hjy] at h5
   rw [h5] at he
   have:=Bdt hn hj' hi' he
   omega
  rw [Oq,Bxw hn i hi']
  simp only [ha,hp _ hm,Bool.false_eq_true,if_false,Bool.true_eq_false]
  rw [show (⟨(ps.getD i default).Name,(ps.getD i default).Type_,(ps.getD i default).N⟩:Ag)=ps.getD i default from rfl]
  rw [show ps.set i (ps.getD i default)=ps by rw [Iu ps i hi',List.set_getElem_self]]
  exact ih (i+1) hk
end Go.Proofs.YtofcpkmnhmnfcaaGreatR.Ev
