/-  slices.Grow at the nil slice, for whatever element type: an empty row of our own. -/
import Derived.Test.YtmimkinjcfekmaaGreatFw
import Derived.Shelf.Spec.SlicesGrow
import Derived.Shelf.RegionOpenPlain
import Derived.WalkKit
import Derived.Deep.LoopGhost
import Derived.Lib.Walk
import Derived.Lib.SliceRun
namespace Go.Proofs.YtmimkinjcfekmaaGreat.Ev
open Go Go.Shelf Go.Proofs
set_option linter.unusedVariables false
set_option linter.unusedSimpArgs false
set_option linter.unnecessarySimpa false
theorem Aeh{P:Program}{ρ :Ren}(L:Go.Proofs.Lays8.n4 P ρ){f e b:Nat}(hf: ρ.f 4=f)(he: ρ.t 25=e)(hc:Dj P f=true){i:TypeInfo}{z:Value}(hi:P.info? e=some i)(hz:i.zero=some z)(hb:i.bytes=b)(hs:0 < i.size)(hzs:z.cells.size=i.size)
  (hx:∀x,LX.nil e=some x→x.sz=i.size):Tk P f e b:=by
 subst hf;subst he
 refine ⟨hc,fun w m hmb hm=> ?_⟩
 cases m with
 |zero=>
  exact (Any8.slices_Grow_room L none 0 0 0 w (Nat.le_refl _) (by omega) (by omega) (by omega)).mono fun en w' ⟨h1,h2⟩=> .inl ⟨h1,h2⟩
 |succ m=>
  refine (Any8.slices_Grow_grow L i z hi hz hs none 0 0 (m+1) [] w (Nat.le_refl _) (by omega) (by rw [hb];simpa using hmb) (by omega) (by simp) (fun _=>rfl) (fun a h=>by cases h)).mono ?_
  rintro en w' ⟨rfl,rfl⟩
  have hge:=grownCap_ge w (0+(m+1)) 0 (ρ.t 25)
  have hle:=grownCap_le_maxLen w (0+(m+1)) 0 (ρ.t 25) (by unfold maxLen;omega)
  generalize grownCap w (0+(m+1)) 0 (ρ.t 25)=cap at hge hle ⊢
  refine .inr ⟨w.drew,_,cap,rfl,?_,rfl,fun x hxx=> ?_,hle⟩
  ·exact ⟨rfl,rfl,rfl,Nat.le_refl _,fun _ _=>rfl⟩
  ·rw [hx x hxx]
   simp only [Array.size_append,size_zeroCells,hzs,List.size_toArray,List.length_nil,Nat.zero_add]
   rw [←Nat.add_mul]
   congr 1
   omega
theorem Abw{P:Program}{ρ :Ren}(L:Go.Proofs.Lays8.n4 P ρ){f e b sz:Nat}(hf: ρ.f 4=f)(he: ρ.t 25=e)(hc:Dj P f=true)
  (h:(P.info? e).map (fun i=>(i.zero.map (fun z=>z.cells.size),i.size,i.bytes))=some (some sz,sz,b)) (hs:0 < sz) (hx:∀x,LX.nil e=some x→x.sz=sz):Tk P f e b:=by
 cases hi:P.info? e with
 |none=>rw [hi] at h;cases h
 |some i=>
  rw [hi] at h
  simp only [Option.map_some,Option.some.injEq,Prod.mk.injEq] at h
  obtain ⟨h1,h2,h3⟩:=h
  cases hz:i.zero with
  |none=>rw [hz] at h1;cases h1
  |some z=>
   rw [hz] at h1
   simp only [Option.map_some,Option.some.injEq] at h1
   exact Aeh L hf he hc hi hz h3 (by omega) (by omega) (fun x hh=>by rw [hx x hh,h2])
end Go.Proofs.YtmimkinjcfekmaaGreat.Ev
