/-  TypingHides, plainly: a further local whose name an expression does not mention changes no type. -/
import Derived.Test.YtmimkinjcfekmaaGreatQ1
import Derived.Test.YtmimkinjcfekmaaGreatQ2
import Derived.Test.YtmimkinjcfekmaaGreatPg
import Derived.Test.YtmimkinjcfekmaaGreatNc
namespace Go.Proofs.YtmimkinjcfekmaaGreat.Ev
open Go An
set_option maxRecDepth 100000
set_option linter.unusedVariables false
set_option linter.unusedSimpArgs false
set_option linter.unnecessarySimpa false
def Rj(v:Ae)(f:Ai):Ae:=⟨v.Params,v.Locals++ [f],v.Site⟩
theorem Y3(l:List Ai)(f:Ai)(s:ByteArray):f8 (l++ [f]) s=if f.Name=s then some f.Type_ else f8 l s:=by
 unfold f8
 rw [List.reverse_append,List.reverse_singleton,List.singleton_append,List.find?_cons]
 by_cases h:f.Name=s
 ·simp [h]
 ·simp [h]
theorem Aah(v:Ae)(f:Ai)(s:ByteArray)(h:f.Name≠s):Qb (Rj v f) s=Qb v s:=by
 unfold Qb Rj
 simp only [Y3,if_neg h]
theorem d4(v:Ae)(f:Ai):Qb (Rj v f) f.Name=some f.Type_:=by
 unfold Qb Rj
 simp only [Y3,if_true]
theorem Aan(v:Ae)(f:Ai)(op:Int)(nm:ByteArray)(k:List Int)(h:op=3→f.Name≠nm):Y8 (Rj v f) op nm k=Y8 v op nm k:=by
 unfold Y8
 by_cases h3:op=3
 ·rw [if_pos h3,if_pos h3,Aah v f nm (h h3)]
 ·rw [if_neg h3,if_neg h3]
  rfl
theorem Ahh(op:Int)(nm:ByteArray)(n:Int)(k:List Aa):Pv (.mk op nm n k)=(if op=3∨(22≤op∧op≤24) then [nm] else [])++Kk k:=by rw [Pv]
mutual
theorem v8(v:Ae)(f:Ai):∀e:Aa,f.Name∉Pv e→v7 (Rj v f) e=v7 v e
 | .mk op nm n k,h=>by
  rw [Ahh,List.mem_append,not_or] at h
  rw [v7,v7,w6 v f k h.2,Aan v f op nm _ fun h3 e=>h.1 (by rw [if_pos (.inl h3),e];exact List.mem_singleton.2 rfl)]
theorem w6(v:Ae)(f:Ai):∀k:List Aa,f.Name∉Kk k→Tb (Rj v f) k=Tb v k
 | [],_=>by rw [Tb,Tb]
 |x::k,h=>by
  rw [Kk,List.mem_append,not_or] at h
  rw [Tb,Tb,v8 v f x h.1,w6 v f k h.2]
end
theorem Aag(v:Ae)(f:Ai)(e:Aa)(h:f.Name∉Pv e):Sh (Rj v f) e=Sh v e:=by
 unfold Sh
 rw [v8 v f e h]
mutual
theorem Acp:∀e:Aa,V7 e≤Az e
 | .mk a b c d=>by
  have:=Acq d
  rw [V7,Az];omega
theorem Acq:∀k:List Aa,t7 k≤D5 k
 | []=>by rw [t7];exact Nat.zero_le _
 |x::k=>by
  have h1:=Acp x
  have h2:=Acq k
  rw [t7,D5];omega
end
theorem Vd{e:Aa}(he:Bc e)(L:Nat)(hL:maxLen+dE e < L)(hb:Az e≤1048576):H3 L e=some (if Ih false e=0 then Im e else []):=by
 unfold H3
 rw [Ot he L hL,Option.bind_some,if_pos (Nat.le_trans (Acp e) hb)]
theorem Ae1(L:Nat)(hL:100≤L)(r:List ByteArray)(v:Ae)(e:Aa)(f:Ai):∀(k:List ByteArray) (i:Nat) (b:Bool),∃t j c,Bl L r v e f k i b=some (t,(c,j))∧((t=0∧c=true)∨(t=1∧f.Name∉k)):=by
 intro k
 induction k with
 |nil=>intro i b;exact ⟨1,i,b,rfl,.inr ⟨rfl,by simp⟩⟩
 |cons x k ih=>
  intro i b
  rw [Bl,Hl]
  by_cases h:x=f.Name
  ·exact ⟨0,i,true,by rw [decide_eq_true h,cond_true,X1 L hL];rfl,.inl ⟨rfl,rfl⟩⟩
  ·obtain ⟨t,j,c,h1,h2⟩:=ih (i+1) b
   refine ⟨t,j,c,by rw [decide_eq_false h,cond_false,h1],h2.imp id fun h3=>⟨h3.1,?_⟩⟩
   rw [List.mem_cons,not_or]
   exact ⟨fun e=>h e.symm,h3.2⟩
theorem Sz(v:Ae)(e:Aa)(f:Ai)(hv:Iu v)(he:Bc e)(hf:Fv f)(hb:Hj v+Az e+C8 f≤1048576):∃L,H2 L v e f=some true:=by
 have hM:=Ro
 refine ⟨maxLen+dE e+100,?_⟩
 have hL:maxLen+dE e < maxLen+dE e+100:=by omega
 generalize maxLen+dE e+100=L at hL
 have hl:=Xf L v (by omega)
 have hlen:v.Locals.length≤1048576:=by
  have h1:Hj v≤1048576:=by omega
  have h2:v.Locals.length≤C4 C8 v.Locals:=E9 fun x=>by unfold C8;omega
  unfold Hj at h1
  omega
 have hw:Iu (Rj v f):=⟨hv.1,⟨by show (v.Locals++ [f]).length≤maxLen;rw [List.length_append,List.length_singleton];omega,fun y hy=>by
  rcases List.mem_append.1 hy with h|h
  ·exact hv.2.1.2 y h
  ·rw [List.mem_singleton.1 h];exact hf⟩,hv.2.2⟩
 have h1:=Np L (Rj v f) f.Name hw (by omega)
 have h2:=No he v hv L hL
 have h3:=No he (Rj v f) hw L hL
 have h4:=Vd he L hL (by omega)
 rw [d4] at h1
 have h0:=X1 L (by omega)
 have hnl:((if Ih false e=0 then Im e else []):List ByteArray).length≤1048576:=by
  by_cases hc:Ih false e=0
  ·rw [if_pos hc,Im,List.length_map]
   have h5:=_root_.Go.Lib.compact_length_le (Vh e)
   have h6:=u3 e
   have h7:=Acp e
   have h8:(Vh e).length=(Pv e).length:=by rw [Vh,List.length_mergeSort,ssE,List.length_map]
   omega
  ·rw [if_neg hc];exact Nat.zero_le _
 obtain ⟨t,j,c,hq,ht⟩:=Ae1 L (by omega) (if Ih false e=0 then Im e else []) v e f (if Ih false e=0 then Im e else []) 0 false
 have hx:t=1→Sh (Rj v f) e=Sh v e:=fun h=>by
  rcases ht with ⟨h5,_⟩|⟨_,h5⟩
  ·omega
  ·by_cases hc:Ih false e=0
   ·rw [if_pos hc] at h5
    exact Aag v f e fun hm=>h5 (Aak e f.Name hm)
   ·unfold Sh;rw [if_pos hc,if_pos hc]
 simp only [Kt,Dq,Ct,H2,Dq,Ct,aN,aB,Aa.cp_eq,hl,h0,Option.bind_some]
 cases f7 v with
 |false=>rfl
 |true=>
  simp only [Bool.not_true,cond_false,List.length_singleton]
  repeat rw [ifp (by omega)]
  rw [show (⟨v.Params,v.Locals++ [⟨f.Name,f.Type_⟩],v.Site⟩:Ae)=Rj v f from rfl,h1]
  simp only [o2,Option.bind_some,bne_self_eq_false,cond_false,Bool.not_true,h4,Mo L _ v e f L (by omega:((if Ih false e=0 then Im e else []):List ByteArray).length≤maxLen) (by omega),hq]
  rcases ht with ⟨rfl,rfl⟩|⟨rfl,h5⟩
  ·rfl
  ·simp only [Ac6,h2,h3,hx rfl,Option.bind_some,beq_self_eq_true,cond_true]
end Go.Proofs.YtmimkinjcfekmaaGreat.Ev
