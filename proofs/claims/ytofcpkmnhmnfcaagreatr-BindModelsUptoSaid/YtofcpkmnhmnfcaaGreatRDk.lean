/-  Chapters 16 and 51, plainly: a model with other values of its parameters. -/
import Derived.Test.YtofcpkmnhmnfcaaGreatRQA
import Derived.Test.YtofcpkmnhmnfcaaGreatRCH
namespace Go.Proofs.YtofcpkmnhmnfcaaGreatR.Ev
open Go An
set_option maxRecDepth 100000
set_option linter.unusedVariables false
set_option linter.unusedSimpArgs false
set_option linter.unnecessarySimpa false
theorem Bek(L:Nat)(t n:Int):Acq L t n=some (A3d t n):=by
 simp only [Atx,Acq,aN,aB,Avb,Option.bind_some,A3d]
 by_cases h2:t=2
 ·simp only [h2,beq_self_eq_true,cond_true,if_true]
  cases (n == 0)<;>rfl
 ·by_cases h3:t=3
  ·subst h3
   rw [beq_false_of_ne h2,cond_false,if_neg h2,beq_self_eq_true,cond_true,if_pos rfl]
   unfold Bm
   by_cases h4:0≤n
   ·simp only [decide_eq_true (show n≥0 from h4),decide_eq_true h4,cond_true,Bool.true_and]
   ·simp only [decide_eq_false (show¬n≥0 from h4),decide_eq_false h4,cond_false,Bool.false_and]
  ·rw [beq_false_of_ne h2,beq_false_of_ne h3,cond_false,cond_false,if_neg h2,if_neg h3]
def Ur(a:List Ae):Nat→List Ag→List Ae→Int×List Ag
 |_,ps,[]=>(0,ps)
 |i,ps,x::k=>match ps.findIdx? fun p=>decide (p.Name=x.Name) with
  |none=>(5,ps)
  |some j=>if (a.take i).any (fun y=>decide (y.Name=x.Name)) then (4,ps)
   else if A3d (ps.getD j default).Type_ x.N=false then (2,ps)
   else Ur a (i+1) (ps.set j ⟨(ps.getD j default).Name,(ps.getD j default).Type_,x.N⟩) k
theorem A8z(L:Nat)(c:Nat)(m:Ac)(b:ByteArray)(w:Ae)(ps:List Ag)(hc:c=ps.length)(hl:ps.length≤maxLen):∀(n i:Nat) (v:Int),i≤ps.length→ps.length - i < n→
  ∃u,Ng L c m b w ps n v (i:Int)=some (match (ps.drop i).findIdx? (fun x=>decide (x.Name=w.Name)) with|some j=>(0,(((i+j:Nat):Int),u))|none=>(1,(v,u))):=by
 have hM:=Bb
 subst hc
 intro n
 induction n with
 |zero=>intro i v _ h;omega
 |succ n ih=>
  intro i v hi hn
  by_cases hlt:i < ps.length
  ·obtain ⟨u,hu⟩:=ih (i+1) v hlt (by omega)
   rw [Abd _ i hlt,List.findIdx?_cons]
   simp only [Ng,Abh,aN,aB,nn,Hp hlt,decide_true,if_true,Z8,cond_true,D0,Aw hlt hl,hu]
   by_cases h1:(ps.getD i default).Name=w.Name
   ·exact ⟨i,by simp only [decide_eq_true h1,cond_true,if_true];rfl⟩
   ·refine ⟨u,?_⟩
    simp only [decide_eq_false h1,cond_false,Bool.false_eq_true,if_false]
    cases (ps.drop (i+1)).findIdx? fun x=>decide (x.Name=w.Name) with
    |none=>rfl
    |some j=>simp only [Option.map_some];rw [show i+1+j=i+(j+1) by omega]
  ·rw [List.drop_eq_nil_of_le (by omega)]
   exact ⟨i,by simp only [Ng,Abh,aN,aB,C4 (show ps.length≤i by omega),cond_false];rfl⟩
theorem Axx(L:Nat)(c:Nat)(m:Ac)(b:ByteArray)(w:Ae)(ps:List Ag)(hc:c=ps.length)(hl:ps.length≤maxLen)(hL:ps.length < L):Wi L c m b w ps=some (N7 (ps.findIdx? fun x=>decide (x.Name=w.Name))):=by
 obtain ⟨u,hu⟩:=A8z L c m b w ps hc hl L 0 0 (Nat.zero_le _) (by omega)
 have hu:Ng L c m b w ps L 0 0=_:=hu
 rw [List.drop_zero] at hu
 simp only [Wi,Asg,q9,aN,aB,hu,Option.bind_some]
 cases ps.findIdx? fun x=>decide (x.Name=w.Name) with
 |none=>rfl
 |some j=>simp only [Gm,Nat.zero_add,N7]
theorem A80(L:Nat)(l:List Ae)(m:Ac)(b:ByteArray)(w:Ae)(ps:List Ag):∀(k:List Ae) (i:Nat) (v:Int),Nx L l m b w ps k i v=some (match k.findIdx? (fun x=>x.Name.toList == w.Name.toList) with|some j=>(0,(((i+j:Nat):Int),((i+j:Nat):Int)))|none=>(1,(v,((i+k.length:Nat):Int)))):=by
 intro k
 induction k with
 |nil=>intro i v;rfl
 |cons x k ih=>
  intro i v
  rw [Nx,ih,List.findIdx?_cons]
  cases hc:(fun x=>x.Name.toList == w.Name.toList) x with
  |true=>simp only [hc,cond_true,if_true];rfl
  |false=>
   simp only [hc,cond_false,if_false,Bool.false_eq_true]
   cases k.findIdx? (fun x=>x.Name.toList == w.Name.toList) with
   |some j=>simp [Nat.add_assoc,Nat.add_comm 1]
   |none=>simp [Nat.add_assoc,Nat.add_comm 1]
theorem Axy(L:Nat)(l:List Ae)(m:Ac)(b:ByteArray)(w:Ae)(ps:List Ag)(hl:l.length≤maxLen)(hL:l.length < L):Wj L l m b w ps=some (N7 (l.findIdx? (fun x=>decide (x.Name=w.Name)))):=by
 simp only [Wj,Ash,s7,aN,aB,A05 _ _ _ _ _ _ _ hl hL,A80,D0,Option.bind_some]
 cases l.findIdx? (fun x=>decide (x.Name=w.Name)) with
 |none=>rfl
 |some i=>simp [N7,Gm]
theorem A8y(L:Nat)(a:List Ae)(m:Ac)(ha:a.length≤maxLen)(hm:m.Params.length≤maxLen)(hL:maxLen < L):∀(k:List Ae) (i:Nat) (v:Int) (b:ByteArray) (ps:List Ag),a.drop i=k→ps.length=m.Params.length→
  ∃j c,Nw L a m k i v b ps=some (if (Ur a i ps k).1=0 then (1,(v,j,b,(Ur a i ps k).2)) else (0,((Ur a i ps k).1,j,⟨#[]⟩,c))):=by
 have hM:=Bb
 intro k
 induction k with
 |nil=>intro i v b ps _ _;exact ⟨i,[],rfl⟩
 |cons x k ih=>
  intro i v b ps h hp
  obtain ⟨hi,hx,hk⟩:=Pt h
  have ht:(a.take i).length≤maxLen:=by rw [List.length_take];omega
  rw [Nw,Axx L m.Params.length m b x ps hp.symm (by omega) (by omega),Option.bind_some,Ur]
  cases hq:ps.findIdx? (fun p=>decide (p.Name=x.Name)) with
  |none=>exact ⟨i,ps,rfl⟩
  |some g=>
   have hg:=Aj1 hq
   obtain ⟨j,c,hj⟩:=ih (i+1) v b (ps.set g ⟨(ps.getD g default).Name,(ps.getD g default).Type_,x.N⟩) hk (by rw [List.length_set];exact hp)
   simp only [show N7 (some g)=(g:Int) from rfl,decide_eq_false (show¬((g:Int) < 0) by omega),cond_false,Int.le_refl,Nat.le_refl,if_true,if_pos (show (i:Int)≤(a.length:Int) by omega),Z8,List.drop_zero,Axy L (a.take i) m b x ps ht (by omega),Option.bind_some,nn,Hp (show g < m.Params.length by omega),Bek,Anp,hj]
   cases (a.take i).any fun y=>decide (y.Name=x.Name) with
   |true=>exact ⟨i,ps,rfl⟩
   |false=>
    cases hf:A3d (ps.getD g default).Type_ x.N with
    |false=>exact ⟨i,ps,rfl⟩
    |true=>exact ⟨j,c,by simp only [cond_false,Bool.not_true,Bool.false_eq_true,if_false,Bool.true_eq_false]⟩
def At6(m:Ac)(l:List Ae)(e:Int):Ac×Int:=if e≠0 then (⟨⟨#[]⟩,[],[],[]⟩,e) else if (Ur l 0 m.Params l).1=0 then (⟨m.Name,(Ur l 0 m.Params l).2,m.Sites,m.Links⟩,0) else (⟨⟨#[]⟩,[],[],[]⟩,(Ur l 0 m.Params l).1)
theorem A7g(L:Nat)(m:Ac)(hL:0 < L)(n:Nat)(hn:0 < n)(b:ByteArray):∀l:List Ae,Ir L l m n 0 b=some (match l with| []=>(1,(0,b))|_::_=>(0,(5,⟨#[]⟩))):=by
 obtain ⟨n,rfl⟩:∃k,n=k+1:=⟨n - 1,by omega⟩
 obtain ⟨L,rfl⟩:∃k,L=k+1:=⟨L - 1,by omega⟩
 intro l
 cases l with
 |nil=>simp only [Ir,Aj2,Ab4,Abx,Ab5,Wo,aN,aB];rfl
 |cons x k=>
  have h:(0:Int) < (((x::k).length:Nat):Int):=by rw [List.length_cons];omega
  simp only [Ir,Aj2,Ab4,Abx,Ab5,Wo,aN,aB,decide_eq_true h,cond_true,Int.le_refl,if_true,if_pos h,Ajy,Asf,Abw,Abu,Aj3,decide_eq_false (Int.lt_irrefl 0),cond_false,Option.bind_some,Kx]
  rfl
theorem Bbc(a:List Ae)(i:Nat)(l:List Ae):Ur a i [] l=match l with| []=>(0,[])|_::_=>(5,[]):=by
 cases l with
 |nil=>rfl
 |cons x k=>rw [Ur];rfl
theorem Baa(L:Nat)(m:Ac)(l:List Ae)(e:Int)(ht:Ul L m=some e)(hm:m.Params.length≤1048576)(hl:l.length≤maxLen)(hL:maxLen < L):Sj L m l=some (At6 m l e):=by
 have hM:=Bb
 by_cases he:e=0
 ·subst he
  cases hp:m.Params with
  |nil=>
   simp only [Ak5,Kw,Iv,Iw,Hu,Sj,Kw,Iv,Iw,Hu,aN,aB,ht,Option.bind_some,bne_self_eq_false,cond_false,hp,List.length_nil,show Nat.beq 0 0=true from rfl,cond_true,A7g L m (by omega) L (by omega),At6,Bbc,ne_eq,not_true_eq_false,if_false]
   cases l with
   |nil=>rfl
   |cons x k=>rfl
  |cons p ps=>
   obtain ⟨j,c,hj⟩:=A8y L l m hl (by omega) hL l 0 0 ⟨#[]⟩ m.Params rfl rfl
   have h0:0 < m.Params.length:=by rw [hp];simp
   have hb:Nat.beq m.Params.length 0=false:=by rw [hp];rfl
   simp only [Ak5,Kw,Iv,Iw,Hu,Sj,Kw,Iv,Iw,Hu,aN,aB,ht,Option.bind_some,if_pos h0,hb,cond_false,if_pos (show m.Params.length*32≤140737488355328 by omega),if_pos (show m.Params.length≤maxLen by omega),A04 L l m L hl (by omega),hj,At6,bne_self_eq_false,ne_eq,not_true_eq_false,if_false]
   by_cases hz:(Ur l 0 m.Params l).1=0
   ·rw [if_pos hz,if_pos hz];simp only [Kx]
   ·rw [if_neg hz,if_neg hz];simp only [Gm]
 ·simp only [Ak5,Kw,Iv,Iw,Hu,Sj,Kw,Iv,Iw,Hu,aN,aB,ht,Option.bind_some,At6,Wl he,cond_true,ne_eq,he,not_false_eq_true,if_true]
end Go.Proofs.YtofcpkmnhmnfcaaGreatR.Ev
