/-  What the laid variable gives. -/
import Derived.Test.YtckmlfboedljeaaDoorFz
import Derived.Test.YtckmlfboedljeaaDoorG0
import Derived.Test.YtckmlfboedljeaaDoorTie
import Derived.LaidMore
import Derived.Stop.Joined
namespace Go.Proofs.YtckmlfboedljeaaDoor.Ev
open Go
set_option maxRecDepth 100000
set_option linter.unusedVariables false
set_option linter.unusedSimpArgs false
set_option linter.unnecessarySimpa false
theorem Ajl: Tryd.prog.globalNamed "simulator/interval.quantiles" =some 0:=by kernel_rfl
theorem Asl:(Tryd.prog.globals[0]?).map (·.type)=some 61:=by kernel_rfl
theorem Aox: Tryd.prog.underlying 61=some (.slice 3):=by kernel_rfl
theorem Aow: Tryd.prog.cellsOf 3=1:=by kernel_rfl
theorem Ask{H:Type} :(Rows.laid_simulator_interval_quantiles:DataW H)= .slice (gl0.map fun n=> .lit (.int .i64 n)) []:=rfl
theorem Arm{H:Type}{enc:TypeId×Value→H}{P:Program}{w:World}{base:Nat}{sp:Nat→Bool}{held:Bool}{fuel:Nat}{t:TypeId}{v:Value}{n:Int}{q:List MemPlace}(hu:P.underlying t=some (.int .i64))
  (h:DataW.trod enc P w base sp held fuel t [v]=some (.lit (.int .i64 n),q)):v= .int .i64 n:=by
 cases fuel with
 |zero=>simp [DataW.trod] at h
 |succ f=>
  unfold DataW.trod at h
  simp only [hu] at h
  split at h<;>try simp_all<;>done
theorem Tf{W:World}(h:laidMetH Tryd.prog [("simulator/interval.quantiles",Rows.laid_simulator_interval_quantiles)] W):d5 (fun _=>none) (Cp.all W):=by
 have h':laidMet Tryd.prog [("simulator/interval.quantiles",Rows.laid_simulator_interval_quantiles)] W:=h
 obtain ⟨ps,⟨g,t,cs,fuel,p,q,hg,ht,hv,hd,_,_⟩,_,hc⟩:=h'
 obtain rfl:=Option.some.inj (Ajl.symm.trans hg)
 obtain rfl:=Option.some.inj (Asl.symm.trans ht)
 rw [Ask] at hd
 obtain ⟨a,cap,hcs,hle,hcell⟩:=open_row Aox Aow hd
 have h0:W.cell? ⟨0,0,none⟩=some (.slice (some a) 30 cap):=by
  have e:cs= #[.slice (some a) 30 cap]:=by
   apply Array.ext'
   rw [hcs];rfl
  subst e
  simpa using World.var?_cell Ajl hv 0
 have hlt:∀(ad:Addr) (v:Value),W.cell? ad=some v→ad.block < W.heap.size:=by
  intro ad v hv
  unfold World.cell? at hv
  by_cases hb:ad.block < W.heap.size
  ·exact hb
  ·rw [Array.getElem?_eq_none (by omega)] at hv;simp at hv
 refine ⟨fun b=>if b < W.heap.size then none else some 0,fun ad hi=>⟨?_,fun n hn=>by cases hn⟩,fun g x hg=> ?_⟩
 ·show ad.block < W.heap.size
  by_cases hb:ad.block < W.heap.size
  ·exact hb
  ·have:=hi 0 (by dsimp only;rw [if_neg hb]);omega
 ·obtain ⟨rfl,rfl⟩:g=0∧x= .t3 gl0:=by
   unfold GL t9 at hg
   split at hg
   ·rename_i he
    exact ⟨(Nat.eq_of_beq_eq_true he).symm,(Option.some.inj hg).symm⟩
   ·cases hg
  refine ⟨hlt _ _ h0,_,h0,?_⟩
  have hcl:∀i,i < 30→W.cell? (a.add i)=some (.int .i64 (gl0.getD i 0)):=by
   intro i hi
   have hd:(gl0.map fun n=>(DataW.lit (.int .i64 n):DataW Unit))[i]? =some (.lit (.int .i64 (gl0.getD i 0))):=by
    have hl:i < gl0.length:=hi
    rw [List.getElem?_map,List.getElem?_eq_getElem hl,List.getD_eq_getElem?_getD,List.getElem?_eq_getElem hl];rfl
   obtain ⟨v,n,q,e1,e2⟩:=hcell i _ hd
   rw [e1,Arm Tryd.underlying3 e2]
  have key:=Ap.row (w:=W) (M:=fun b=>if b < W.heap.size then none else some 0) (β :=fun _=>none) (B:=fun _=>False) (.lst false (.t3 gl0)) ⟨false,3,1,30,(LX.t3 gl0).row⟩ rfl (some a) cap (fun i _=> .int .i64 (gl0.getD i 0))
   hle (fun i hi=>rfl) (fun i hi=>⟨a,rfl⟩) (fun ad i j p had hi hp=> ?_) (fun i j p hi hp=> ?_)
  ·exact key
  ·obtain rfl:=Option.some.inj had
   have hj:j=0:=by
    cases j with
    |zero=>rfl
    |succ j=>cases hp
   subst hj
   have hc':=hcl i hi
   rw [show i*1+0=i by omega]
   refine ⟨fun n hn=> ?_,hc',rfl⟩
   dsimp only at hn
   rw [if_pos (hlt _ _ hc')] at hn
   cases hn
  ·cases j with
   |zero=>
    obtain rfl:PV.val (.int .i64 (gl0.getD i 0))=p:=Option.some.inj hp
    exact .val _ rfl
   |succ j=>cases hp
theorem Xd(os:Os)(args:Array Value):laidMetH Tryd.prog [("simulator/interval.quantiles",Rows.laid_simulator_interval_quantiles)] ((World.doorLaid Tryd.prog 400 os).forCall (fun _ _=>0) ⟨#[],args,[]⟩).memory:=
 laidMet_of_run' 8 (by kernel_rfl) (by kernel_rfl)
end Go.Proofs.YtckmlfboedljeaaDoor.Ev
