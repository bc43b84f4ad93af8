/-  Chapters 16 and 51, plainly: a model with other values of its parameters. -/
import Derived.Test.YtofcpkmnhmnfcaaGreatRQA
import Derived.Test.YtofcpkmnhmnfcaaGreatRCH
namespace Go.Proofs.YtofcpkmnhmnfcaaGreatR.Ev
open Go An
set_option maxRecDepth 100000
set_option linter.unusedVariables false
set_option linter.unusedSimpArgs false
set_option linter.unnecessarySimpa false
theorem A8c(L:Nat)(t n:Int):Zi L t n=some (At1 t n):=by
 simp only [Amt,Zi,aN,aB,Apc,Option.bind_some,At1]
 by_cases h2:t=2
 ·simp only [h2,beq_self_eq_true,cond_true,if_true]
  cases (n == 0)<;>rfl
 ·by_cases h3:t=3
  ·subst h3
   rw [beq_false_of_ne h2,cond_false,if_neg h2,beq_self_eq_true,cond_true,if_pos rfl]
   unfold B1
   by_cases h4:0≤n
   ·simp only [decide_eq_true (show n≥0 from h4),decide_eq_true h4,cond_true,Bool.true_and]
   ·simp only [decide_eq_false (show¬n≥0 from h4),decide_eq_false h4,cond_false,Bool.false_and]
  ·rw [beq_false_of_ne h2,beq_false_of_ne h3,cond_false,cond_false,if_neg h2,if_neg h3]
def Oq(a:List Ae):Nat→List Ag→List Ae→Int×List Ag
 |_,ps,[]=>(0,ps)
 |i,ps,x::k=>match ps.findIdx? fun p=>decide (p.Name=x.Name) with
  |none=>(5,ps)
  |some j=>if (a.take i).any (fun y=>decide (y.Name=x.Name)) then (4,ps)
   else if At1 (ps.getD j default).Type_ x.N=false then (2,ps)
   else Oq a (i+1) (ps.set j ⟨(ps.getD j default).Name,(ps.getD j default).Type_,x.N⟩) k
theorem A3r(L:Nat)(c:Nat)(m:Ac)(b:ByteArray)(w:Ae)(ps:List Ag)(hc:c=ps.length)(hl:ps.length≤maxLen):∀(n i:Nat) (v:Int),i≤ps.length→ps.length - i < n→
  ∃u,Ly L c m b w ps n v (i:Int)=some (match (ps.drop i).findIdx? (fun x=>decide (x.Name=w.Name)) with|some j=>(0,(((i+j:Nat):Int),u))|none=>(1,(v,u))):=by
 have hM:=Bx
 subst hc
 intro n
 induction n with
 |zero=>intro i v _ h;omega
 |succ n ih=>
  intro i v hi hn
  by_cases hlt:i < ps.length
  ·obtain ⟨u,hu⟩:=ih (i+1) v hlt (by omega)
   rw [Aty _ i hlt,List.findIdx?_cons]
   simp only [Ly,Ye,aN,aB,nn,Qu hlt,decide_true,if_true,toN,cond_true,Jo,Bd hlt hl,hu]
   by_cases h1:(ps.getD i default).Name=w.Name
   ·exact ⟨i,by simp only [decide_eq_true h1,cond_true,if_true];rfl⟩
   ·refine ⟨u,?_⟩
    simp only [decide_eq_false h1,cond_false,Bool.false_eq_true,if_false]
    cases (ps.drop (i+1)).findIdx? fun x=>decide (x.Name=w.Name) with
    |none=>rfl
    |some j=>simp only [Option.map_some];rw [show i+1+j=i+(j+1) by omega]
  ·rw [List.drop_eq_nil_of_le (by omega)]
   exact ⟨i,by simp only [Ly,Ye,aN,aB,F0 (show ps.length≤i by omega),cond_false];rfl⟩
theorem Asn(L:Nat)(c:Nat)(m:Ac)(b:ByteArray)(w:Ae)(ps:List Ag)(hc:c=ps.length)(hl:ps.length≤maxLen)(hL:ps.length < L):S5 L c m b w ps=some (Sf (ps.findIdx? fun x=>decide (x.Name=w.Name))):=by
 obtain ⟨u,hu⟩:=A3r L c m b w ps hc hl L 0 0 (Nat.zero_le _) (by omega)
 have hu:Ly L c m b w ps L 0 0=_:=hu
 rw [List.drop_zero] at hu
 simp only [S5,Aln,Wf,aN,aB,hu,Option.bind_some]
 cases ps.findIdx? fun x=>decide (x.Name=w.Name) with
 |none=>rfl
 |some j=>simp only [Nb,Nat.zero_add,Sf]
theorem A3s(L:Nat)(l:List Ae)(m:Ac)(b:ByteArray)(w:Ae)(ps:List Ag):∀(k:List Ae) (i:Nat) (v:Int),Mf L l m b w ps k i v=some (match k.findIdx? (fun x=>x.Name.toList == w.Name.toList) with|some j=>(0,(((i+j:Nat):Int),((i+j:Nat):Int)))|none=>(1,(v,((i+k.length:Nat):Int)))):=by
 intro k
 induction k with
 |nil=>intro i v;rfl
 |cons x k ih=>
  intro i v
  rw [Mf,ih,List.findIdx?_cons]
  cases hc:(fun x=>x.Name.toList == w.Name.toList) x with
  |true=>simp only [hc,cond_true,if_true];rfl
  |false=>
   simp only [hc,cond_false,if_false,Bool.false_eq_true]
   cases k.findIdx? (fun x=>x.Name.toList == w.Name.toList) with
   |some j=>simp [Nat.add_assoc,Nat.add_comm 1]
   |none=>simp [Nat.add_assoc,Nat.add_comm 1]
theorem Aso(L:Nat)(l:List Ae)(m:Ac)(b:ByteArray)(w:Ae)(ps:List Ag)(hl:l.length≤maxLen)(hL:l.length < L):S6 L l m b w ps=some (Sf (l.findIdx? (fun x=>decide (x.Name=w.Name)))):=by
 simp only [S6,Alo,Wh,aN,aB,Av5 _ _ _ _ _ _ _ hl hL,A3s,Jo,Option.bind_some]
 cases l.findIdx? (fun x=>decide (x.Name=w.Name)) with
 |none=>rfl
 |some i=>simp [Sf,Nb]
theorem A3q(L:Nat)(a:List Ae)(m:Ac)(ha:a.length≤maxLen)(hm:m.Params.length≤maxLen)(hL:maxLen < L):∀(k:List Ae) (i:Nat) (v:Int) (b:ByteArray) (ps:List Ag),a.drop i=k→ps.length=m.Params.length→
  ∃j c,Me L a m k i v b ps=some (if (Oq a i ps k).1=0 then (1,(v,j,b,(Oq a i ps k).2)) else (0,((Oq a i ps k).1,j,⟨#[]⟩,c))):=by
 have hM:=Bx
 intro k
 induction k with
 |nil=>intro i v b ps _ _;exact ⟨i,[],rfl⟩
 |cons x k ih=>
  intro i v b ps h hp
  obtain ⟨hi,hx,hk⟩:=Rk h
  have ht:(a.take i).length≤maxLen:=by rw [List.length_take];omega
  rw [Me,Asn L m.Params.length m b x ps hp.symm (by omega) (by omega),Option.bind_some,Oq]
  cases hq:ps.findIdx? (fun p=>decide (p.Name=x.Name)) with
  |none=>exact ⟨i,ps,rfl⟩
  |some g=>
   have hg:=Akx hq
   obtain ⟨j,c,hj⟩:=ih (i+1) v b (ps.set g ⟨(ps.getD g default).Name,(ps.getD g default).Type_,x.N⟩) hk (by rw [List.length_set];exact hp)
   simp only [show Sf (some g)=(g:Int) from rfl,decide_eq_false (show¬((g:Int) < 0) by omega),cond_false,Int.le_refl,Nat.le_refl,if_true,if_pos (show (i:Int)≤(a.length:Int) by omega),toN,List.drop_zero,Aso L (a.take i) m b x ps ht (by omega),Option.bind_some,nn,Qu (show g < m.Params.length by omega),A8c,Apa,hj]
   cases (a.take i).any fun y=>decide (y.Name=x.Name) with
   |true=>exact ⟨i,ps,rfl⟩
   |false=>
    cases hf:At1 (ps.getD g default).Type_ x.N with
    |false=>exact ⟨i,ps,rfl⟩
    |true=>exact ⟨j,c,by simp only [cond_false,Bool.not_true,Bool.false_eq_true,if_false,Bool.true_eq_false]⟩
def Aiv(m:Ac)(l:List Ae)(e:Int):Ac×Int:=if e≠0 then (⟨⟨#[]⟩,[],[],[]⟩,e) else if (Oq l 0 m.Params l).1=0 then (⟨m.Name,(Oq l 0 m.Params l).2,m.Sites,m.Links⟩,0) else (⟨⟨#[]⟩,[],[],[]⟩,(Oq l 0 m.Params l).1)
theorem A2h(L:Nat)(m:Ac)(hL:0 < L)(n:Nat)(hn:0 < n)(b:ByteArray):∀l:List Ae,Hz L l m n 0 b=some (match l with| []=>(1,(0,b))|_::_=>(0,(5,⟨#[]⟩))):=by
 obtain ⟨n,rfl⟩:∃k,n=k+1:=⟨n - 1,by omega⟩
 obtain ⟨L,rfl⟩:∃k,L=k+1:=⟨L - 1,by omega⟩
 intro l
 cases l with
 |nil=>simp only [Hz,Ac0,Y1,Yv,Y2,S8,aN,aB];rfl
 |cons x k=>
  have h:(0:Int) < (((x::k).length:Nat):Int):=by rw [List.length_cons];omega
  simp only [Hz,Ac0,Y1,Yv,Y2,S8,aN,aB,decide_eq_true h,cond_true,Int.le_refl,if_true,if_pos h,Acx,Alm,Yu,Ys,Ac1,decide_eq_false (Int.lt_irrefl 0),cond_false,Option.bind_some,Sr]
  rfl
theorem Blv(a:List Ae)(i:Nat)(l:List Ae):Oq a i [] l=match l with| []=>(0,[])|_::_=>(5,[]):=by
 cases l with
 |nil=>rfl
 |cons x k=>rw [Oq];rfl
theorem A4z(L:Nat)(m:Ac)(l:List Ae)(e:Int)(ht:Nw L m=some e)(hm:m.Params.length≤1048576)(hl:l.length≤maxLen)(hL:maxLen < L):M4 L m l=some (Aiv m l e):=by
 have hM:=Bx
 by_cases he:e=0
 ·subst he
  cases hp:m.Params with
  |nil=>
   simp only [Adx,J5,H2,H3,Gt,M4,J5,H2,H3,Gt,aN,aB,ht,Option.bind_some,bne_self_eq_false,cond_false,hp,List.length_nil,show Nat.beq 0 0=true from rfl,cond_true,A2h L m (by omega) L (by omega),Aiv,Blv,ne_eq,not_true_eq_false,if_false]
   cases l with
   |nil=>rfl
   |cons x k=>rfl
  |cons p ps=>
   obtain ⟨j,c,hj⟩:=A3q L l m hl (by omega) hL l 0 0 ⟨#[]⟩ m.Params rfl rfl
   have h0:0 < m.Params.length:=by rw [hp];simp
   have hb:Nat.beq m.Params.length 0=false:=by rw [hp];rfl
   simp only [Adx,J5,H2,H3,Gt,M4,J5,H2,H3,Gt,aN,aB,ht,Option.bind_some,if_pos h0,hb,cond_false,if_pos (show m.Params.length*32≤140737488355328 by omega),if_pos (show m.Params.length≤maxLen by omega),Av4 L l m L hl (by omega),hj,Aiv,bne_self_eq_false,ne_eq,not_true_eq_false,if_false]
   by_cases hz:(Oq l 0 m.Params l).1=0
   ·rw [if_pos hz,if_pos hz];simp only [Sr]
   ·rw [if_neg hz,if_neg hz];simp only [Nb]
 ·simp only [Adx,J5,H2,H3,Gt,M4,J5,H2,H3,Gt,aN,aB,ht,Option.bind_some,Aiv,ne0 he,cond_true,ne_eq,he,not_false_eq_true,if_true]
end Go.Proofs.YtofcpkmnhmnfcaaGreatR.Ev
