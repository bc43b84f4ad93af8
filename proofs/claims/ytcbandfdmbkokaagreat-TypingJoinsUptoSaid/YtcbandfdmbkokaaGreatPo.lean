/-  Chapter 14, plainly: statements, in the program and in the reference. -/
import Derived.Test.YtcbandfdmbkokaaGreatQ1
import Derived.Test.YtcbandfdmbkokaaGreatQ3
import Derived.Test.YtcbandfdmbkokaaGreatQ5
import Derived.Test.YtcbandfdmbkokaaGreatPn
namespace Go.Proofs.YtcbandfdmbkokaaGreat.Ev
open Go
set_option maxRecDepth 100000
set_option linter.unusedVariables false
set_option linter.unusedSimpArgs false
set_option linter.unnecessarySimpa false
theorem Aw5(L:Nat)(v:Ai)(s:Ab)(hv:D8 v)(hs:Vr v.Site 1099511627776)(h:SB L s):T0 L v s=some (if s.Op=1 then A6i v s else Abd v s.Name (decide (Oj v.Site s.Of=k8)) [1,3]):=by
 have hM:=Cf
 have hL:=h.lt
 have h2:=hv.2.1.1
 have h4:=hv.2.2.len.1
 obtain ⟨b1,b2,b3,b4⟩:=h.de
 have hw:∀t,Eg L v s.E t t=some (Od v s.E [t]):=fun t=>by rw [Yt L v s.E t t hv hs h.e b1,A02]
 simp only [Ab8,T0,Ao,Au,Al,Am,Ar,Ap,Ak,Av,Aw,Aq,Ax,Aa.cp_eq,v7 L _ s.Name h2 (by omega),Z8 L _ s.Name h4 (by omega),Abj L _ s.Of hs hL,Xa,hw,G8,Option.bind_some,A6i,Abd]
 by_cases h1:s.Op=1
 ·simp only [h1,beq_self_eq_true,cond_true,if_true]
  cases Acl v.Locals s.Name with
  |some t=>rfl
  |none=>
   cases Apc v.Site.Vars s.Name with
   |some t=>rfl
   |none=>rfl
 ·simp only [h1,beq_false_of_ne h1,cond_false,if_false]
  cases Acl v.Locals s.Name with
  |none=>rfl
  |some t=>
   simp only [o2,Bool.not_true,cond_false,Option.bind_some,k8,List.any_cons,List.any_nil,Afb,Bool.or_false]
   by_cases hk:Oj v.Site s.Of=⟨#[115,116,114,101,97,109]⟩
   ·cases hm:(t == 1 || t == 3)<;>simp [hk,hm]
   ·simp [hk]
theorem Atn(L:Nat)(m:Af)(v:Ai)(s:Ab)(hm:MB L m v)(h:SB L s):Rc L m v s=some (if s.Op=14 then Anz v s else Axh m v s):=by
 have hM:=Cf
 have h1:=hm.sites
 have h2:=hm.links
 have hL:=hm.fuel
 have ha:∀ps,Pr L v s ps=some (Ak4 v ps s):=fun ps=>Aw3 L v s ps hm.ev hm.st h
 simp only [Zi,Rc,Ao,Au,Al,Am,Ar,Ap,Ak,Av,Aw,Aq,Ax,Ab.cp_eq,Abk L v.Site s.Name hm.st hL,Aw0 L m s.Of (by omega) hL,Awz L m _ _ (show m.Links.length≤maxLen by omega) hL,ha,Option.bind_some,Axh,Anz,Axd,Aa8,Aqo,Ts,Abb]
 by_cases h14:s.Op=14
 ·simp only [h14,beq_self_eq_true,cond_true,if_true]
  cases hg:v.Site.Routines.findIdx? (fun x=>decide (x.Name=s.Name)) with
  |none=>rfl
  |some j=>
   have hj:=Adp hg
   simp only [Option.isNone_some,cond_false,R2,nn,if_true,Ub hj,Sr,Option.map_some]
 ·simp only [h14,beq_false_of_ne h14,cond_false,if_false]
  cases hf:m.Sites.findIdx? (fun x=>decide (x.Name=s.Of)) with
  |none=>rfl
  |some i=>
   have hi:=Adp hf
   have hd:Vr (m.Sites.getD i default) 1099511627776:=hm.each _ (by rw [Ro _ i hi];exact List.getElem_mem hi)
   simp only [Option.isNone_some,cond_false,R2,nn,if_true,Ub hi,Sr,Option.map_some,Abk L _ s.Name hd hL,Option.bind_some,Ts,Abb]
   cases hg:(m.Sites.getD i default).Routines.findIdx? (fun x=>decide (x.Name=s.Name)) with
   |none=>rfl
   |some j=>
    have hj:=Adp hg
    simp only [Option.isNone_some,cond_false,R2,nn,if_true,Ub hj,Sr,Option.map_some]
    cases (Alq m v.Site.Name s.Of).2<;>rfl
def R3(op:Int):ByteArray:=
 if op=6∨op=7 then Hc else if op=8∨op=9 then O9 else if op=10 then u6 else if op=11∨op=12 then Qo else if op=15 then Wu else if op=16 then Ym else if op=17 then Yl else ⟨#[]⟩
theorem Ato(L:Nat)(op:Int):Re L op=some (R3 op):=by
 simp only [Ob,Qw,Ly,Qv,Lx,Qu,Aaq,Re,Ao,Au,Al,Am,Ar,Ap,Ak,Av,Aw,Aq,Ax]
 rcases Abx op with rfl|rfl|rfl|rfl|rfl|rfl|rfl|rfl|rfl|rfl|rfl|rfl|rfl|rfl|rfl|rfl|rfl|rfl|h|h
 case inr.inr.inr.inr.inr.inr.inr.inr.inr.inr.inr.inr.inr.inr.inr.inr.inr.inr.inl=>
  have h':op < 1∨18 < op:= .inl h
  unfold R3
  repeat rw [if_neg (by omega)]
  simp only [cond_false,Bd h' 6 (by decide) (by decide),Bd h' 7 (by decide) (by decide),Bd h' 8 (by decide) (by decide),Bd h' 9 (by decide) (by decide),Bd h' 10 (by decide) (by decide),Bd h' 11 (by decide) (by decide),Bd h' 12 (by decide) (by decide),Bd h' 15 (by decide) (by decide),Bd h' 16 (by decide) (by decide),Bd h' 17 (by decide) (by decide)]
 case inr.inr.inr.inr.inr.inr.inr.inr.inr.inr.inr.inr.inr.inr.inr.inr.inr.inr.inr=>
  have h':op < 1∨18 < op:= .inr h
  unfold R3
  repeat rw [if_neg (by omega)]
  simp only [cond_false,Bd h' 6 (by decide) (by decide),Bd h' 7 (by decide) (by decide),Bd h' 8 (by decide) (by decide),Bd h' 9 (by decide) (by decide),Bd h' 10 (by decide) (by decide),Bd h' 11 (by decide) (by decide),Bd h' 12 (by decide) (by decide),Bd h' 15 (by decide) (by decide),Bd h' 16 (by decide) (by decide),Bd h' 17 (by decide) (by decide)]
 all_goals rfl
theorem Aet(v:Ai)(e:Aa):U9 v [e]=Od v e [1]:=by
 unfold U9 U9
 by_cases h:Od v e [1]=0<;>simp [h]
theorem Ah2(v:Ai)(e f:Aa):U9 v [e,f]=if Od v e [1]≠0 then Od v e [1] else Od v f [1]:=by
 rw [U9,Aet]
theorem Bd9:R3 1=⟨#[]⟩:=rfl
theorem Bea:R3 2=⟨#[]⟩:=rfl
theorem Beb:R3 3=⟨#[]⟩:=rfl
theorem Bec:R3 4=⟨#[]⟩:=rfl
theorem Bed:R3 5=⟨#[]⟩:=rfl
theorem Bee:R3 6=Hc:=rfl
theorem Bef:R3 7=Hc:=rfl
theorem Beg:R3 8=O9:=rfl
theorem Asr:R3 9=O9:=rfl
theorem A8e:R3 10=u6:=rfl
theorem A8f:R3 11=Qo:=rfl
theorem A8g:R3 12=Qo:=rfl
theorem A8h:R3 13=⟨#[]⟩:=rfl
theorem A8i:R3 14=⟨#[]⟩:=rfl
theorem A8j:R3 15=Wu:=rfl
theorem A8k:R3 16=Ym:=rfl
theorem A8l:R3 17=Yl:=rfl
theorem A8m:R3 18=⟨#[]⟩:=rfl
theorem A5o:(u6=(⟨#[]⟩:ByteArray))=False:=eq_false (by decide)
theorem A17:(Yl=(⟨#[]⟩:ByteArray))=False:=eq_false (by decide)
theorem A18:(Ym=(⟨#[]⟩:ByteArray))=False:=eq_false (by decide)
theorem Ap6:(Qo=(⟨#[]⟩:ByteArray))=False:=eq_false (by decide)
theorem Aeu:(Hc=(⟨#[]⟩:ByteArray))=False:=eq_false (by decide)
theorem k7:(O9=(⟨#[]⟩:ByteArray))=False:=eq_false (by decide)
theorem A19:(Wu=(⟨#[]⟩:ByteArray))=False:=eq_false (by decide)
theorem Aw6(L:Nat)(m:Af)(v:Ai)(s:Ab)(hm:MB L m v)(h:SB L s):Rl L m v s=some (Aoy m v s):=by
 have hM:=Cf
 have hL:=hm.fuel
 have hv:=hm.ev
 have h2:=hv.2.1.1
 obtain ⟨b1,b2,b3,b4⟩:=h.de
 have w:∀a b,Eg L v s.E a b=some (Od v s.E [a,b]):=fun a b=>Yt L v s.E a b hv hm.st h.e b1
 have wf:∀a b,Eg L v s.F a b=some (Od v s.F [a,b]):=fun a b=>Yt L v s.F a b hv hm.st h.f b2
 simp only [P6,Sh,Nm,Sg,Nl,Sf,Nk,Se,Ac9,Rl,Ao,Au,Al,Am,Ar,Ap,Ak,Av,Aw,Aq,Ax,Ab.cp_eq,Aa.cp_eq,Ato,Abj L _ s.Name hm.st hL,Aw5 L v s hv hm.st h,Atn L m v s hm h,v7 L _ s.Of h2 (by omega),w,wf,A02,G8,Option.bind_some,D7,Dz]
 unfold Aoy
 rcases Abx s.Op with e|e|e|e|e|e|e|e|e|e|e|e|e|e|e|e|e|e|e|e
 case inr.inr.inr.inr.inr.inr.inr.inr.inr.inr.inr.inr.inr.inr.inr.inr.inr.inr.inl=>
  have h':s.Op < 1∨18 < s.Op:= .inl e
  have hk:R3 s.Op=⟨#[]⟩:=by unfold R3;repeat rw [if_neg (by omega)]
  repeat rw [if_neg (by omega)]
  simp [hk,Bd h' 1 (by decide) (by decide),Bd h' 2 (by decide) (by decide),Bd h' 3 (by decide) (by decide),Bd h' 4 (by decide) (by decide),Bd h' 5 (by decide) (by decide),Bd h' 6 (by decide) (by decide),Bd h' 7 (by decide) (by decide),Bd h' 8 (by decide) (by decide),Bd h' 9 (by decide) (by decide),Bd h' 10 (by decide) (by decide),Bd h' 11 (by decide) (by decide),Bd h' 12 (by decide) (by decide),Bd h' 13 (by decide) (by decide),Bd h' 14 (by decide) (by decide),Bd h' 15 (by decide) (by decide),Bd h' 16 (by decide) (by decide),Bd h' 17 (by decide) (by decide)]
 case inr.inr.inr.inr.inr.inr.inr.inr.inr.inr.inr.inr.inr.inr.inr.inr.inr.inr.inr=>
  have h':s.Op < 1∨18 < s.Op:= .inr e
  have hk:R3 s.Op=⟨#[]⟩:=by unfold R3;repeat rw [if_neg (by omega)]
  repeat rw [if_neg (by omega)]
  simp [hk,Bd h' 1 (by decide) (by decide),Bd h' 2 (by decide) (by decide),Bd h' 3 (by decide) (by decide),Bd h' 4 (by decide) (by decide),Bd h' 5 (by decide) (by decide),Bd h' 6 (by decide) (by decide),Bd h' 7 (by decide) (by decide),Bd h' 8 (by decide) (by decide),Bd h' 9 (by decide) (by decide),Bd h' 10 (by decide) (by decide),Bd h' 11 (by decide) (by decide),Bd h' 12 (by decide) (by decide),Bd h' 13 (by decide) (by decide),Bd h' 14 (by decide) (by decide),Bd h' 15 (by decide) (by decide),Bd h' 16 (by decide) (by decide),Bd h' 17 (by decide) (by decide)]
 all_goals clear w wf h hm
 ·simp [e,Bd9]
 ·simp [e,Bea]
 ·simp [e,Beb]
 ·simp [e,Bec]
 ·simp [e,Bed]
 ·by_cases hk:Oj v.Site s.Name=Hc<;>simp [e,Bee,Aeu,hk,P5,Aet,Ah2,U9]<;>grind
 ·by_cases hk:Oj v.Site s.Name=Hc<;>simp [e,Bef,Aeu,hk,P5,Aet,Ah2,U9]
 ·by_cases hk:Oj v.Site s.Name=O9<;>simp [e,Beg,k7,hk,P5,Aet,Ah2,U9]
 ·cases hl:Acl v.Locals s.Of with
  |none=>by_cases hk:Oj v.Site s.Name=O9<;>simp [e,Asr,k7,hk,Abd,o2,hl]
  |some t=>
   by_cases hk:Oj v.Site s.Name=O9
   ·by_cases ht:t=1
    ·simp [e,Asr,k7,hk,Abd,o2,hl,ht]
    ·have ht':=beq_false_of_ne ht
     simp [e,Asr,k7,hk,Abd,o2,hl,ht,ht',bne]
   ·simp [e,Asr,k7,hk,Abd,o2,hl]
 ·by_cases hk:Oj v.Site s.Name=u6<;>simp [e,A8e,A5o,hk,P5,Aet,Ah2,U9]
 ·by_cases hk:Oj v.Site s.Name=Qo<;>simp [e,A8f,Ap6,hk,P5,Aet,Ah2,U9]
 ·by_cases hk:Oj v.Site s.Name=Qo<;>simp [e,A8g,Ap6,hk,P5,Aet,Ah2,U9]
 ·simp [e,A8h]
 ·simp [e,A8i]
 ·by_cases hk:Oj v.Site s.Name=Wu<;>simp [e,A8j,A19,hk]
 ·by_cases hk:Oj v.Site s.Name=Ym<;>simp [e,A8k,A18,hk,P5,Aet,Ah2,U9]
 ·by_cases hk:Oj v.Site s.Name=Yl<;>simp [e,A8l,A17,hk,P5,Aet,Ah2,U9]
 ·simp [e,A8m]
end Go.Proofs.YtcbandfdmbkokaaGreat.Ev
