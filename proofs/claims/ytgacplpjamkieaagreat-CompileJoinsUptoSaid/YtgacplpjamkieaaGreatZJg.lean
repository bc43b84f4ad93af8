/-  CompileJoins, plainly. -/
import Derived.Test.YtgacplpjamkieaaGreatZG11
import Derived.Test.YtgacplpjamkieaaGreatZJA
set_option maxRecDepth 100000
set_option linter.unusedVariables false
set_option linter.unusedSimpArgs false
set_option linter.unnecessarySimpa false
namespace Go.Proofs.YtgacplpjamkieaaGreat.Ev
open Go An
theorem Bjw{n:Int}(h:okI .u8 n):0<=n/\n<=255:=by
 unfold okI at h;simp[Lit.wf,IntKind.min,IntKind.max,IntKind.signed,IntKind.bits]at h;omega
theorem Bjv(p n:Nat):Int.tmod (p:Int) (n:Int)=((p % n:Nat):Int):=by rw[Int.ofNat_tmod]
theorem Bkw{b:Bool} :(bO b 0 != 0)=b:=by cases b<;>rfl
theorem Bkv{b:Bool} :(bO b 0 == 0)= !b:=by cases b<;>rfl
theorem Bda{m:Ag}(h:MG m){i:Nat}(hi:i<m.aD.length){lc:List Ap}(hlc:lc.length<=maxLen/\∀y∈lc,I8 y){l:List Ad}(hl:∀y∈l,B3 y)(hb:Cv l<=1048576)(ht:Xv m i lc l=0):
  ∃w b,Au P1 ⟨m,⟨m.aJ,lc,m.aD.getD i default⟩,0⟩ l=some (w,⟨m,⟨m.aJ,lc,m.aD.getD i default⟩,bO b 0⟩)/\w.length=N8 l:=by
 obtain⟨c1,c2⟩:=Aws ht;rw[show Int.toNat (i:Int)=i from toN i]at c2;obtain⟨w,b,_,h2,h3⟩:=Aiz (Ao4 h.ok h.bk hlc hi) hl P1 (Fc.of hb) c1 c2;exact⟨w,b,h3 0,h2⟩
set_option maxHeartbeats 4000000 in
theorem Aqr(m:Ag)(i:Int)(of:Ac6)(hm:Uk m)(hi:okI .i64 i)(hof:Ar8 of)(hbb:Hi m+Akc of<=1048576):∃L,Ac7 L m i of=some true:=by
 have hb:Hi m<=1048576:=Nat.le_trans (Nat.le_add_right _ _) hbb;have h:MG m:=⟨hm,hb⟩;refine⟨P1,?_⟩;have hM:=Bp;have hLm:=Alc;obtain⟨f,hf,h60⟩:=A9r h;have hsl:m.aD.length<=1048576:=(Akv hb).1;obtain⟨o1,o2⟩:=Bjw hof.1;obtain⟨o3,o4⟩:=Bjw hof.2;obtain⟨p,hp⟩:∃n:Nat,of.a0=(n:Int):=⟨of.a0.toNat,by omega⟩;obtain⟨q,hq⟩:∃n:Nat,of.a1=(n:Int):=⟨of.a1.toNat,by omega⟩;have hp':Bb of.a0=(p:Int):=by rw[Iu (by omega) (by omega)];exact hp
 have hq':Bb of.a1=(q:Int):=by rw[Iu (by omega) (by omega)];exact hq
 show R1 P1 m i of=some true
 unfold R1;rw[hp',hq'];cases f with
 |false=>
  simp only[aN,aB,hf,Option.bind_some,Bc,Bool.not_false,cond_true]
 |true=>
  by_cases h1:i<0
  ·simp only[aN,aB,hf,Option.bind_some,Bc,Bool.not_true,cond_false,decide_eq_true h1,cond_true]
  by_cases h2:i>=(m.aD.length:Int)
  ·simp only[aN,aB,hf,Option.bind_some,Bc,Bool.not_true,cond_false,decide_eq_false h1,decide_eq_true h2,cond_true]
  obtain⟨i,rfl⟩:∃n:Nat,i=(n:Int):=⟨i.toNat,by omega⟩;have hi':i<m.aD.length:=by omega
  have gi0:((0:Int)<=(i:Int))=True:=eq_true (by omega);have gi1:((i:Int)<((m.aD.length:Nat):Int))=True:=eq_true (by omega);by_cases h3:(m.aD.getD i default).aA.length=0
  ·simp only[aN,aB,gD,toN,hf,Option.bind_some,Bc,Bool.not_true,cond_false,decide_eq_false h1,decide_eq_false h2,gi0,gi1,if_true,h3];rfl
  have hmm:m.aD.getD i default∈m.aD:=by rw[Hj _ i hi'];exact List.getElem_mem hi'
  have hk':p % (m.aD.getD i default).aA.length<(m.aD.getD i default).aA.length:=Nat.mod_lt _ (by omega);have hr:(m.aD.getD i default).aA.getD (p % (m.aD.getD i default).aA.length) default∈(m.aD.getD i default).aA:=by rw[Hj _ _ hk'];exact List.getElem_mem hk'
  obtain⟨ro,rb⟩:=h.routs hmm _ hr;have c60:=h60 rfl _ hmm _ hr;have e1:Int.tmod (p:Int) (((m.aD.getD i default).aA.length:Nat):Int)=((p % (m.aD.getD i default).aA.length:Nat):Int):=Bjv _ _;have g3:((((m.aD.getD i default).aA.length:Nat):Int) == 0)=false:=beq_false_of_ne (by omega);have g4:decide ((((m.aD.getD i default).aA.length:Nat):Int)=0)=false:=decide_eq_false (by omega);have g5:((0:Int)<=((p % (m.aD.getD i default).aA.length:Nat):Int))=True:=eq_true (by omega);have g6:(((p % (m.aD.getD i default).aA.length:Nat):Int)<(((m.aD.getD i default).aA.length:Nat):Int))=True:=eq_true (by omega);generalize hrt:(m.aD.getD i default).aA.getD (p % (m.aD.getD i default).aA.length) default=rt at*
  obtain⟨b1,b2,b3⟩:=Aa7 rb;have hob:∀y∈rt.aK,B3 y:=ro.2.2.2.2;have hlen:=Adk rt.aK;have hlc:(rt.aJ++rt.aL).length<=maxLen/\∀y∈rt.aJ++rt.aL,I8 y:=⟨by rw[List.length_append,hM];omega,λy hy=>by
   rcases List.mem_append.1 hy with h|h
   ·exact ro.2.1.2 y h
   ·exact ro.2.2.1.2 y h⟩
  have e2:Bb ((rt.aK.length:Int)+1)=((rt.aK.length+1:Nat):Int):=by rw[Iu (by omega) (by omega)];omega
  have e3:Int.tmod (q:Int) ((rt.aK.length+1:Nat):Int)=((q % (rt.aK.length+1):Nat):Int):=Bjv _ _;have hk:q % (rt.aK.length+1)<=rt.aK.length:=Nat.le_of_lt_succ (Nat.mod_lt _ (by omega));have g7:decide (((rt.aK.length+1:Nat):Int)=0)=false:=decide_eq_false (by omega);have e4:=A1i P1 rt (by omega) (by omega);simp only[aN,aB,gD,toN,hf,Option.bind_some,Bc,Bool.not_true,Bool.not_false,cond_false,cond_true,decide_eq_false h1,decide_eq_false h2,gi0,gi1,if_true,e1,g3,g4,g5,g6,hrt,e2,e3,g7,e4];generalize hkk:q % (rt.aK.length+1)=k at hk;have g8:((0:Int)<=0)=True:=eq_true (by omega);have g9:((0:Int)<=(k:Int))=True:=eq_true (by omega);have g10:((k:Int)<=(rt.aK.length:Int))=True:=eq_true (by omega);have g11:((rt.aK.length:Int)<=(rt.aK.length:Int))=True:=eq_true (by omega);have g12:((0+0:Nat)*256<=140737488355328)=True:=eq_true (by omega);have g13:((0+0:Nat)<=maxLen)=True:=eq_true (by omega);have e5:List.drop 0 (rt.aK.take k)=rt.aK.take k:=List.drop_zero;have e6:rt.aK.take rt.aK.length=rt.aK:=List.take_length;simp only[g8,g9,g10,g11,g12,g13,if_true,e5,e6];have hab:rt.aK.take k++rt.aK.drop k=rt.aK:=List.take_append_drop k rt.aK;generalize rt.aK.take k=a at*
  generalize rt.aK.drop k=b at*
  rw[<-hab]at hob b3 c60 hlen ⊢;have hbk:=b3;rw[Baf]at hbk;have hoa:∀y∈a,B3 y:=λy hy=>hob y (List.mem_append_left b hy);have hobb:∀y∈b,B3 y:=λy hy=>hob y (List.mem_append_right a hy);have t0:=W3 hm hb hlc (i:Int) hob P1 (Aig Ah5 b3);have ta:=W3 hm hb hlc (i:Int) hoa P1 (Aig Ah5 (by omega));have tb:=W3 hm hb hlc (i:Int) hobb P1 (Aig Ah5 (by omega));have hiff:=A57 m (i:Int) (rt.aJ++rt.aL) a b (by omega);have m0:Cn P1 [] 0=some []:=As4 P1 [] 0 (Nat.zero_le _) hLm;have ZA:∀z:Int,z≠0->(z != 0)=true:=λz hz=>Zs hz;have ZB:∀z:Int,z≠0->(z == 0)=false:=λz hz=>beq_false_of_ne hz;by_cases hz:Xv m (i:Int) (rt.aJ++rt.aL) (a++b)=0
  ·obtain⟨za,zb⟩:=hiff.1 hz;obtain⟨c1,c2⟩:=Aws hz;rw[toN]at c2;obtain⟨w1,w2,β1,β2,G1,G2,n1,n2,hv⟩:=A4a (Ao4 h.ok h.bk hlc hi') hob P1 (Fc.of b3) c1 c2;obtain⟨s1,s2,s3⟩:=hv 0;have z1:=Zg a;have z2:=Zg b;have q1:((0+w1.length)*256<=140737488355328)=True:=eq_true (by omega);have q2:(0+w1.length<=maxLen)=True:=eq_true (by omega);have q3:((w1.length+w2.length)*256<=140737488355328)=True:=eq_true (by omega);have q4:(w1.length+w2.length<=maxLen)=True:=eq_true (by omega);have q5:((w1.length+([]:List Ae).length)*256<=140737488355328)=True:=eq_true (by rw[List.length_nil];omega);have q6:(w1.length+([]:List Ae).length<=maxLen)=True:=eq_true (by rw[List.length_nil];omega);have m1:Cn P1 w2 (w1.length:Int)=some (mv w2 w1.length):=As4 P1 w2 _ (by omega) hLm;have hS:Bi P1 (w1++mv w2 w1.length) (w1++mv w2 w1.length)=some true:=Axs (by rw[List.length_append,Ub];omega) (Nat.add_lt_add_left (by decide) _) (G1.app (G2.mv _));simp only[t0,ta,tb,hz,za,zb,s1,s2,s3,Option.bind_some,bne_self_eq_false,beq_self_eq_true,cond_false,cond_true,Bkw,Bkv];cases β1 with
   |true=>
    simp only[Bool.true_or,Bool.not_true,cond_false,cond_true,Option.bind_some];cases β2<;>rfl
   |false=>
    cases β2 with
    |true=>
     simp only[Bool.false_or,Bool.not_true,Bool.not_false,cond_false,cond_true,Option.bind_some]
    |false=>
     simp only[Bool.false_or,Bool.not_true,Bool.not_false,cond_false,cond_true,Option.bind_some,q1,q2,q3,q4,if_true,m1,Ub,hS]
  ·by_cases za:Xv m (i:Int) (rt.aJ++rt.aL) a=0
   ·have zb:Xv m (i:Int) (rt.aJ++rt.aL) b≠0:=λzb=>hz (hiff.2 ⟨za,zb⟩);obtain⟨wa,βa,sa,na⟩:=Bda h hi' hlc hoa (by omega) za;simp only[t0,ta,tb,ZA _ hz,za,ZA _ zb,ZB _ zb,sa,Option.bind_some,bne_self_eq_false,beq_self_eq_true,cond_false,cond_true,Bkw,Bkv];cases βa<;>rfl
   ·by_cases zb:Xv m (i:Int) (rt.aJ++rt.aL) b=0
    ·obtain⟨wb,βb,sb,nb⟩:=Bda h hi' hlc hobb (by omega) zb;simp only[t0,ta,tb,ZA _ hz,ZA _ za,ZB _ za,zb,sb,Option.bind_some,bne_self_eq_false,beq_self_eq_true,cond_false,cond_true,Bkw,Bkv];cases βb<;>rfl
    ·simp only[t0,ta,tb,ZA _ hz,ZA _ za,ZB _ za,ZA _ zb,ZB _ zb,Option.bind_some,bne_self_eq_false,beq_self_eq_true,cond_false,cond_true]
end Go.Proofs.YtgacplpjamkieaaGreat.Ev
