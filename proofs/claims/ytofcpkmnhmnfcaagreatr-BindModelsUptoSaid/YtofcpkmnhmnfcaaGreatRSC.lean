/-  Chapter 16, plainly: the statement on settings (the parameters after Model; the own settings change nothing). -/
import Derived.Test.YtofcpkmnhmnfcaaGreatRQA
import Derived.Test.YtofcpkmnhmnfcaaGreatRSA
import Derived.Test.YtofcpkmnhmnfcaaGreatRDi
namespace Go.Proofs.YtofcpkmnhmnfcaaGreatR.Ev
open Go An
set_option maxRecDepth 100000
set_option linter.unusedVariables false
set_option linter.unusedSimpArgs false
set_option linter.unnecessarySimpa false
theorem Ca1(L:Nat):Yu L=some true:=rfl
theorem Bdz(L:Nat)(s:Aa):∃b,Ai0 L s=some b:=by
 simp only [Atd,Ai0,aN,aB]
 exact ⟨_,rfl⟩
theorem Bep(L:Nat)(u:Int)(i:Nat)(m:Ac):∀(k:List Am) (j:Nat) (v:Int),(∀x∈k,∃n,P4 L x.Body=some n)→∃w t,Tw L u (i:Int) m k j v=some (0,(w,t)):=by
 intro k
 induction k with
 |nil=>intro j v _;exact ⟨v,j,rfl⟩
 |cons x k ih=>
  intro j v h
  obtain ⟨n,hn⟩:=h x (by simp)
  rw [Tw,hn,Option.bind_some]
  exact ih (j+1) _ fun y hy=>h y (by simp [hy])
theorem Beo(L:Nat){m:Ac}(h:MG m)(hL:Ti≤L):∀(k:List Aa) (i:Nat) (u v:Int),m.Sites.drop i=k→∃t a b c,Tv L m k i u v=some (t,(a,b,c))∧(t=0∨t=1):=by
 have hl:=Ow hL
 intro k
 induction k with
 |nil=>intro i u v _;exact ⟨1,u,v,i,rfl,.inr rfl⟩
 |cons x k ih=>
  intro i u v hk
  obtain ⟨hi,hx,hk'⟩:=Pt hk
  have hm:x∈m.Sites:=by rw [←hx,Hb _ i hi];exact List.getElem_mem hi
  have hsg:=h.site x hm
  have hlen:=hsg.ln.2.2.2.2.2.2.2.2.2
  obtain ⟨b,hb⟩:=Bdz L x
  rw [Tv,hb,Option.bind_some]
  cases b with
  |false=>exact ⟨0,_,_,_,rfl,.inl rfl⟩
  |true=>
   obtain ⟨w,t,hw⟩:=Bep L u i m x.Routines 0 (B7 (v+(B7 ((B7 ((B7 (1+(x.Vars.length:Int)))+(x.Starts.length:Int)))+(x.Laws.length:Int))))) fun r hr=>by
    have hro:=hsg.routs r hr
    exact Bhp (show∀y∈r.Body,B2 y from hro.2.2.2.2) L (Au8 hL (Ajn (hsg.bkR r hr)).2.2)
   simp only [Bool.not_true,cond_false]
   rw [A7z L u (i:Int) m L (by rw [Z8,hx];exact hlen) (by rw [Z8,hx];omega),Z8,hx,hw,Option.bind_some,Gm]
   exact ih (i+1) u w hk'
theorem Bhl(L:Nat){m:Ac}(h:MG m)(hL:Ti≤L):∃n,Als L m=some n:=by
 obtain ⟨t,a,b,c,hj,ht⟩:=Beo L h hL m.Sites 0 0 (B7 ((m.Params.length:Int)+(m.Links.length:Int))) rfl
 simp only [A6o,Aat,Als,Aat,aN,aB,A7y L m L h.sites (Nat.lt_of_le_of_lt h.sites (Ow hL)),hj,Option.bind_some]
 rcases ht with rfl|rfl
 ·exact ⟨_,by rw [Gm]⟩
 ·exact ⟨_,by rw [Kx]⟩
theorem Bkc{p q:List Ag}(h:Acv p q)(ht:∀x∈q,Oy x.Type_=true):∀x∈p,Oy x.Type_=true:=by
 intro x hx
 have hx2:(x.Name,x.Type_)∈q.map fun x=>(x.Name,x.Type_):=by
  rw [←h];exact List.mem_map.2 ⟨x,hx,rfl⟩
 obtain ⟨y,hy,he⟩:=List.mem_map.1 hx2
 injection he with e1 e2
 rw [←e2];exact ht y hy
theorem Bi0:∀ {p q:List Ag},Acv p q→Hd Ha p=Hd Ha q
 | [],[],_=>rfl
 | [],_::_,h=>by cases h
 |_::_,[],h=>by cases h
 |x::p,y::q,h=>by
  unfold Acv at h
  rw [List.map_cons,List.map_cons] at h
  injection h with h1 h2
  injection h1 with h1 h3
  rw [Hd,Hd,Bi0 (p:=p) (q:=q) h2]
  unfold Ha
  rw [h1]
theorem B05(a:List Ae):∀(k:List Ae) (i:Nat) (ps:List Ag),(∀p∈ps,Jp p)→(∀s∈k,Y2 s)→(Ur a i ps k).1=0→∀p∈(Ur a i ps k).2,Jp p:=by
 intro k
 induction k with
 |nil=>intro i ps hp _ _;exact hp
 |cons x k ih=>
  intro i ps hp hk h
  obtain ⟨g,hg,hl,hf,e⟩:=Bbd h
  rw [e] at h ⊢
  refine ih _ _ (fun p hpm=> ?_) (fun s hs=>hk s (by simp [hs])) h
  rcases List.mem_or_eq_of_mem_set hpm with h1|h1
  ·exact hp p h1
  ·subst h1
   have h2:=hp (ps.getD g default) (by rw [Hb ps g hl];exact List.getElem_mem hl)
   have h3:=hk x (by simp)
   exact ⟨h2.1,h2.2.1,h3.2⟩
end Go.Proofs.YtofcpkmnhmnfcaaGreatR.Ev
namespace Go.Proofs.YtofcpkmnhmnfcaaGreatR.Ev
open Go An
set_option maxRecDepth 100000
set_option linter.unusedVariables false
set_option linter.unusedSimpArgs false
set_option linter.unnecessarySimpa false
theorem Bbs:∀ {p q:List Ag} (n:ByteArray),Acv p q→(p.findIdx? fun x=>decide (x.Name=n))=q.findIdx? fun x=>decide (x.Name=n)
 | [],[],_,_=>rfl
 | [],_::_,_,h=>by cases h
 |_::_,[],_,h=>by cases h
 |x::p,y::q,n,h=>by
  unfold Acv at h
  rw [List.map_cons,List.map_cons] at h
  injection h with h1 h2
  injection h1 with h1 _
  rw [List.findIdx?_cons,List.findIdx?_cons,h1,Bbs n (show Acv p q from h2)]
theorem Ba5(L:Nat)(a1:ByteArray)(a0:Ac):∀(k:List Ag) (i:Nat) (v:Int),Qy L a1 a0 k i v=some (match k.findIdx? (fun x=>x.Name.toList == a1.toList) with|some j=>(0,(((i+j:Nat):Int),((i+j:Nat):Int)))|none=>(1,(v,((i+k.length:Nat):Int)))):=by
 intro k
 induction k with
 |nil=>intro i v;rfl
 |cons x k ih=>
  intro i v
  rw [Qy,ih,List.findIdx?_cons]
  cases hc:(fun x=>x.Name.toList == a1.toList) x with
  |true=>simp only [hc,cond_true,if_true];rfl
  |false=>
   simp only [hc,cond_false,if_false,Bool.false_eq_true]
   cases k.findIdx? (fun x=>x.Name.toList == a1.toList) with
   |some j=>simp [Nat.add_assoc,Nat.add_comm 1]
   |none=>simp [Nat.add_assoc,Nat.add_comm 1]
theorem Azu(L:Nat)(n:ByteArray)(m:Ac)(hl:m.Params.length≤maxLen)(hL:m.Params.length < L):Acp L m n=some (N7 (m.Params.findIdx? fun x=>decide (x.Name=n))):=by
 simp only [A21,Z5,Acp,Z5,aN,aB,A4m L n m L hl hL,Ba5,D0,Option.bind_some]
 cases m.Params.findIdx? fun x=>decide (x.Name=n) with
 |none=>rfl
 |some i=>simp [N7,Gm]
theorem Ba4(L:Nat)(a:List Ae)(m:Ac)(i:Nat)(r:Int)(ps:List Ag)(hi:i < a.length)(ha:a.length≤maxLen)(v:Int)(b:ByteArray):∀(n j:Nat),j≤i→i - j < n→
  ∃t,Ml L a m (i:Int) r ps n v (j:Int) b=some (if ((a.take i).drop j).any (fun y=>decide (y.Name=(a.getD i default).Name)) then (0,(4,t,⟨#[]⟩)) else (1,(v,(i:Int),b))):=by
 have hM:=Bb
 have hti:(a.take i).length=i:=by rw [List.length_take];omega
 intro n
 induction n with
 |zero=>intro j _ h;omega
 |succ n ih=>
  intro j hj hn
  by_cases hlt:j < i
  ·obtain ⟨t,ht⟩:=ih (j+1) hlt (by omega)
   have hg:(a.take i).getD j default=a.getD j default:=by simp [List.getD,List.getElem?_take,hlt]
   rw [Abd _ j (by omega),List.any_cons,hg]
   have e1:B7 ((j:Int)+1)=((j+1:Nat):Int):=Aw (n:=a.length) (by omega) ha
   simp only [Ml,Aea,aN,aB,nn,Hp hlt,Hp (show j < a.length by omega),Hp hi,decide_true,if_true,Z8,cond_true,D0,e1,ht]
   by_cases h1:(a.getD j default).Name=(a.getD i default).Name
   ·exact ⟨j,by simp only [decide_eq_true h1,cond_true,Bool.true_or,if_true]⟩
   ·exact ⟨t,by simp only [decide_eq_false h1,cond_false,Bool.false_or]⟩
  ·obtain rfl:j=i:=by omega
   rw [List.drop_eq_nil_of_le (by omega)]
   exact ⟨j,by simp only [Ml,Aea,aN,aB,decide_eq_false (Int.lt_irrefl _),cond_false,List.any_nil,Bool.false_eq_true,if_false]⟩
theorem Ba3(L:Nat)(a:List Ae)(m:Ac)(ha:a.length≤maxLen)(hm:m.Params.length≤maxLen)(hL:maxLen < L)(hty:∀p∈m.Params,Oy p.Type_=true):∀(k:List Ae) (i:Nat) (v:Int) (b:ByteArray) (ps:List Ag),a.drop i=k→Acv ps m.Params→
  ∃j c,Qx L a m k i v b ps=some (if (Ur a i ps k).1=0 then (1,(v,j,b,(Ur a i ps k).2)) else (0,((Ur a i ps k).1,j,⟨#[]⟩,c))):=by
 have hM:=Bb
 intro k
 induction k with
 |nil=>intro i v b ps _ _;exact ⟨i,[],rfl⟩
 |cons x k ih=>
  intro i v b ps h hp
  obtain ⟨hi,hx,hk⟩:=Pt h
  have hlen:=Bg9 hp
  rw [Qx,Azu L x.Name m hm (by omega),Option.bind_some,Ur,Bbs x.Name hp]
  cases hq:m.Params.findIdx? (fun p=>decide (p.Name=x.Name)) with
  |none=>exact ⟨i,ps,rfl⟩
  |some g=>
   have hg:=Aj1 hq
   have hgp:g < ps.length:=by omega
   have hps:ps.getD g default∈ps:=by rw [Hb ps g hgp];exact List.getElem_mem hgp
   obtain ⟨t,ht⟩:=Ba4 L a m i (g:Int) ps hi ha v b L 0 (Nat.zero_le _) (by omega)
   have ht:Ml L a m (i:Int) (g:Int) ps L v 0 b=_:=ht
   rw [List.drop_zero,hx] at ht
   obtain ⟨j,c,hj⟩:=ih (i+1) v b (ps.set g ⟨(ps.getD g default).Name,(ps.getD g default).Type_,x.N⟩) hk (Acv.trans (Bbx g hgp x.N) hp)
   simp only [show N7 (some g)=(g:Int) from rfl,decide_eq_false (show¬((g:Int) < 0) by omega),cond_false,ht,Option.bind_some]
   cases (a.take i).any fun y=>decide (y.Name=x.Name) with
   |true=>exact ⟨i,ps,by simp only [if_true,Gm];rfl⟩
   |false=>
    simp only [Bool.false_eq_true,if_false,Kx,nn,Hp hg,if_true,Z8,Anw,Option.bind_some,Bu7 (Bkc hp hty _ hps),hj]
    cases hf:Afy (ps.getD g default).Type_ x.N with
    |false=>exact ⟨i,ps,rfl⟩
    |true=>exact ⟨j,c,by simp only [cond_false,Bool.not_true,Bool.true_eq_false,if_false]⟩
theorem A91(L:Nat)(m:Ac)(hp:m.Params= [])(hL:0 < L)(n:Nat)(hn:0 < n)(b:ByteArray):∀l:List Ae,Qp L l m n 0 b=some (match l with| []=>(1,(0,b))|_::_=>(0,(5,⟨#[]⟩))):=by
 obtain ⟨n,rfl⟩:∃k,n=k+1:=⟨n - 1,by omega⟩
 intro l
 cases l with
 |nil=>simp only [Qp,Amm,Afl,Z3,aN,aB];rfl
 |cons x k=>
  have h:(0:Int) < (((x::k).length:Nat):Int):=by rw [List.length_cons];omega
  have h2:=Azu L ((x::k).getD 0 default).Name m (by rw [hp];exact Nat.zero_le _) (by rw [hp];exact hL)
  rw [hp] at h2
  simp only [Qp,Amm,Afl,Z3,aN,aB,decide_eq_true h,cond_true,Int.le_refl,if_true,if_pos h,h2,Option.bind_some]
  rfl
theorem Bej(L:Nat)(m:Ac)(l:List Ae)(e:Int)(ht:Acn L m=some e)(hty:e=0→∀p∈m.Params,Oy p.Type_=true)(hm:m.Params.length≤1048576)(hl:l.length≤maxLen)(hL:maxLen < L):Aco L m l=some (At6 m l e):=by
 have hM:=Bb
 by_cases he:e=0
 ·subst he
  cases hp:m.Params with
  |nil=>
   simp only [Ani,Mz,Kf,Kg,Aco,Mz,Kf,Kg,aN,aB,ht,Option.bind_some,bne_self_eq_false,cond_false,hp,List.length_nil,show Nat.beq 0 0=true from rfl,cond_true,A91 L m hp (by omega) L (by omega),At6,Bbc,ne_eq,not_true_eq_false,if_false]
   cases l with
   |nil=>rfl
   |cons x k=>rfl
  |cons p ps=>
   obtain ⟨j,c,hj⟩:=Ba3 L l m hl (by omega) hL (hty rfl) l 0 0 ⟨#[]⟩ m.Params rfl rfl
   have hb:Nat.beq m.Params.length 0=false:=by rw [hp];rfl
   simp only [Ani,Mz,Kf,Kg,Aco,Mz,Kf,Kg,aN,aB,ht,Option.bind_some,hb,cond_false,if_pos (show m.Params.length*32≤140737488355328 by omega),if_pos (show m.Params.length≤maxLen by omega),A4l L l m L hl (by omega),hj,At6,bne_self_eq_false,ne_eq,not_true_eq_false,if_false]
   by_cases hz:(Ur l 0 m.Params l).1=0
   ·rw [if_pos hz,if_pos hz];simp only [Kx]
   ·rw [if_neg hz,if_neg hz];simp only [Gm]
 ·simp only [Ani,Mz,Kf,Kg,Aco,Mz,Kf,Kg,aN,aB,ht,Option.bind_some,At6,Wl he,cond_true,ne_eq,he,not_false_eq_true,if_true]
theorem A17(L:Nat)(m:Ac):∀(k:List Ag) (i:Nat) (v:List Ae),v.length+k.length≤1048576→∃j,Ic L m k i v=some (0,(v++Bh1 k,j)):=by
 intro k
 induction k with
 |nil=>intro i v _;exact ⟨i,by rw [Ic,Bh1,List.map_nil,List.append_nil]⟩
 |cons x k ih=>
  intro i v h
  have hM:=Bb
  rw [List.length_cons] at h
  obtain ⟨j,hj⟩:=ih (i+1) (v++ [⟨x.Name,x.N⟩]) (by simp only [List.length_append,List.length_cons,List.length_nil];omega)
  refine ⟨j,?_⟩
  rw [Ic]
  simp only [List.length_cons,List.length_nil]
  repeat rw [ifp (by omega)]
  rw [hj,List.append_assoc];rfl
theorem A4r(L:Nat)(m:Ac)(h:m.Params.length≤1048576)(hL:maxLen < L):Ac7 L m=some (Bh1 m.Params):=by
 have hM:=Bb
 obtain ⟨j,hj⟩:=A17 L m m.Params 0 [] (by simpa using h)
 simp only [Atw,S3,Ac7,S3,aN,aB,Axq L m L (by omega) (by omega),hj,Option.bind_some,Gm,List.nil_append]
theorem A47(L:Nat)(l:List Ae)(hl:l.length≤maxLen)(hL:maxLen < L):Vt L l l=some true:=by
 obtain ⟨j,hj⟩:=Z7 l (Gx L l l) (fun _ _=>rfl) (fun i v x k hi hm hx=>by rw [Gx,if_pos (show (i:Int) < ((l.length:Nat):Int) by omega),Z8,hx];simp only [A9z,beq_self_eq_true,Bool.and_self,Bool.not_true,cond_false]) l 0 false rfl
 simp only [Al4,Ro,K4,Vt,Ro,K4,aN,aB,Arr L l l L hl (by omega),hj,bne_self_eq_false,cond_false,Option.bind_some,Kx]
theorem B04{m:Ac}{l:List Ae}(h:MG m)(hl:∀y∈l,Y2 y)(e:Int):MG (At6 m l e).1:=by
 have h0:MG ⟨⟨#[]⟩,[],[],[]⟩:=⟨⟨by unfold okS;exact Nat.zero_le _,⟨Nat.zero_le _,fun _ h=>by cases h⟩,⟨Nat.zero_le _,fun _ h=>by cases h⟩,⟨Nat.zero_le _,fun _ h=>by cases h⟩⟩,by decide⟩
 unfold At6
 by_cases he:e=0
 ·rw [if_neg (by simpa using he)]
  by_cases hz:(Ur l 0 m.Params l).1=0
  ·rw [if_pos hz]
   have hlk:=Bsb l l 0 m.Params hz
   have hlen:=Bg9 hlk
   have hp:=h.ok.2.1.1
   refine ⟨⟨h.ok.1,⟨by show (Ur l 0 m.Params l).2.length≤maxLen;omega,B05 l l 0 m.Params h.ok.2.1.2 hl hz⟩,h.ok.2.2.1,h.ok.2.2.2⟩,?_⟩
   have h2:=h.bk
   unfold Hr at h2 ⊢
   rw [show Hd Ha (Ur l 0 m.Params l).2=Hd Ha m.Params from Bi0 hlk]
   exact h2
  ·rw [if_neg hz];exact h0
 ·rw [if_pos he];exact h0
theorem A7s(m:Ac)(l:List Ae)(hm:f5 m)(hl:l.length≤maxLen∧∀y∈l,Y2 y)(hb:Hr m+(Hd Y4 l+1)≤1048576):∃L,Af3 L m l=some true:=by
 have h:MG m:=⟨hm,by omega⟩
 refine ⟨Ti,?_⟩
 have hM:=Bb
 have hL:maxLen < Ti:=Ow (Nat.le_refl Ti)
 have hpl:m.Params.length≤1048576:=by
  have h1:=h.bk
  have h2:m.Params.length≤Hd Ha m.Params:=Io fun x=>by unfold Ha;omega
  unfold Hr at h1
  omega
 obtain ⟨n,hn⟩:=Bhl Ti h (Nat.le_refl _)
 have h1:=Baa Ti m l _ (Cd3 h Ti (Nat.le_refl _)) hpl hl.1 hL
 have h2:=Bej Ti m l _ (Cd4 h Ti (Nat.le_refl _)) (fun h0 p hp=>by unfold tmE at h0;exact ((Chq (Bf8.1 h0).1).ok p hp).1) hpl hl.1 hL
 have h3:=B6s Ti (At6 m l (tmE m)).1 (B04 h hl.2 _) (Nat.le_refl _)
 have h4:=A47 Ti (Bh1 m.Params) (by simp only [Bh1,List.length_map];omega) hL
 simp only [Af7,Af3,aN,aB,hn,Ca1,h1,h2,h3,h4,A1u Ti m hpl hL,A4r Ti m hpl hL,Option.bind_some,beq_self_eq_true,cond_true]
 cases (bif decide (n > 3000) then true else decide ((l.length:Int) > 100))<;>rfl
end Go.Proofs.YtofcpkmnhmnfcaaGreatR.Ev
