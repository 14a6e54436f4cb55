/- slices.Reverse at whatever elements: a contract in place, by the library's own. -/
import Derived.Test.YteopobecmacgdaaGreatDoorMM6
import Derived.Shelf.SlicesE.Reverse
import Derived.Shelf.SlicesQ.Reverse
import Derived.Test.YteopobecmacgdaaGreatDoorProg
import Derived.KernelRfl
import Derived.Test.YteopobecmacgdaaGreatDoorMM9
import Derived.Test.YteopobecmacgdaaGreatDoorMM4
import Derived.Shelf.Unicode.ValidAny
import Derived.Lib.DecodeN
import Derived.Test.YteopobecmacgdaaGreatDoorMM8
import Derived.Test.YteopobecmacgdaaGreatDoorMM7
import Derived.Test.YteopobecmacgdaaGreatDoorTyA
set_option linter.unusedSectionVars false
set_option linter.unusedVariables false
set_option linter.unusedSimpArgs false
namespace Go.Ev
open Go Go.Proofs Go.Shelf Go.RowKit
open Go.Sort (flatK HoldsK putRowK)
set_option maxRecDepth 100000
def me(w:World)(M:Nat->Prop)(t:ah):List (List Value)->List t.el->Prop
 |[],[]=>True
 |c::d,x::xs=>aL w M t c x/\me w M t d xs
 |_,_=>False
theorem DM{w:World}{M:Nat->Prop}{t:ah}:∀{cells:List Value} {xs:List t.el},bT (aL w M t) cells xs->∃d:List (List Value),d.flatten=cells/\me w M t d xs
 |cells,[],h=>⟨[],by rw[show cells=[]from h];rfl,trivial⟩
 |cells,x::xs,⟨c1,c2,e,o,q⟩=>by
  obtain⟨d,ai,O⟩:=DM q
  exact⟨c1::d,by rw[List.flatten_cons,ai,e],o,O⟩
theorem Ih{w:World}{M:Nat->Prop}{t:ah}:∀{d:List (List Value)} {xs:List t.el},me w M t d xs->bT (aL w M t) d.flatten xs
 |[],[],_=>rfl
 |[],_::_,h=>h.elim
 |_::_,[],h=>h.elim
 |c::d,x::xs,⟨o,q⟩=>⟨c,d.flatten,rfl,o,Ih q⟩
theorem OC{w:World}{M:Nat->Prop}{t:ah}:∀{d e:List (List Value)} {xs o:List t.el},me w M t d xs->me w M t e o->me w M t (d++e) (xs++o)
 |[],_,[],_,_,h=>h
 |[],_,_::_,_,h,_=>h.elim
 |_::_,_,[],_,h,_=>h.elim
 |_::_,_,_::_,_,⟨q,O⟩,h=>⟨q,OC O h⟩
theorem Lg{w:World}{M:Nat->Prop}{t:ah}:∀{d:List (List Value)} {xs:List t.el},me w M t d xs->me w M t d.reverse xs.reverse
 |[],[],_=>trivial
 |[],_::_,h=>h.elim
 |_::_,[],h=>h.elim
 |c::d,x::xs,⟨o,q⟩=>by
  rw[List.reverse_cons,List.reverse_cons]
  exact OC (Lg q) ⟨o,trivial⟩
theorem BL{w:World}{M:Nat->Prop}{t:ah}:∀{d:List (List Value)} {xs:List t.el},me w M t d xs->d.length=xs.length/\∀c∈d,c.length=t.cells/\∀v∈c,v.oneCell'=true
 |[],[],_=>⟨rfl,fun c h=>by cases h⟩
 |[],_::_,h=>h.elim
 |_::_,[],h=>h.elim
 |c::d,x::xs,⟨q,O⟩=>by
  obtain⟨R,U⟩:=BL O
  refine⟨by simp[R],fun c' o=>?_⟩
  rcases List.mem_cons.1 o with rfl|o
  ·exact⟨cu t q,hU t q⟩
  ·exact U c' o
def kA(k:Nat)(c:List Value):List Value:=if c.length=k/\(c.all fun v=>v.oneCell')=true then c else List.replicate k (.int .i64 0)
theorem Zi(k:Nat)(c:List Value):(kA k c).length=k:=by
 unfold kA
 split
 ·rename_i h;exact h.1
 ·simp
theorem abo(k:Nat)(c:List Value):∀v∈kA k c,v.oneCell'=true:=by
 unfold kA
 split
 ·rename_i h;exact List.all_eq_true.1 h.2
 ·intro v o
  rw[List.eq_of_mem_replicate o]
  rfl
theorem Zh{k:Nat}{c:List Value}(h:c.length=k)(o:∀v∈c,v.oneCell'=true):kA k c=c:=if_pos ⟨h,List.all_eq_true.2 o⟩
theorem HU{k:Nat}:∀{d:List (List Value)},(∀c∈d,c.length=k)->∀t,t<d.length*k->d.flatten[t]? =((d[t/k]?).getD [])[t %k]?
 |[],_,t,h=>by simp at h
 |c::d,ai,t,h=>by
  have o:=ai c List.mem_cons_self
  have R:0<k:=by
   rcases Nat.eq_zero_or_pos k with q|q
   ·subst q;simp at h
   ·exact q
  rw[List.flatten_cons]
  by_cases O:t<k
  ·rw[List.getElem?_append_left (by omega),Nat.div_eq_of_lt O,Nat.mod_eq_of_lt O]
   rfl
  ·have U:t/k=(t-k)/k+1:=by rw[<-Nat.add_div_right _ R];congr 1;omega
   have W:t %k=(t-k) %k:=by rw[<-Nat.add_mod_right (t-k) k];congr 1;omega
   rw[List.getElem?_append_right (by omega),o,HU (fun c o=>ai c (List.mem_cons_of_mem _ o)) (t-k) (by rw[List.length_cons,Nat.succ_mul]at h;omega),U,W]
   rfl
theorem J6{k:Nat}{d:List (List Value)}(ai:∀c∈d,c.length=k/\∀v∈c,v.oneCell'=true):flatK (kA k) k d.toArray=d.flatten.toArray:=by
 have W:d.flatten.length=d.length*k:=by
  induction d with
  |nil=>simp
  |cons c d Y=>
   rw[List.flatten_cons,List.length_append,(ai c List.mem_cons_self).1,Y fun c O=>ai c (List.mem_cons_of_mem _ O),List.length_cons,Nat.succ_mul]
   omega
 apply Array.ext'
 apply List.ext_getElem?
 intro t
 by_cases o:t<d.length*k
 ·have Z:=HU (fun c O=>(ai c O).1) t o
  have la:0<k:=by
   rcases Nat.eq_zero_or_pos k with R|R
   ·subst R;simp at o
   ·exact R
  have aJ:t/k<d.length:=Nat.div_lt_of_lt_mul (by rw[Nat.mul_comm];exact o)
  have U:t %k<k:=Nat.mod_lt _ la
  have q:=ai d[t/k] (List.getElem_mem aJ)
  rw[show(d.flatten.toArray).toList=d.flatten from rfl,Z,Array.getElem?_toList]
  unfold flatK
  rw[Array.getElem?_map,Array.getElem?_range]
  have:t<d.toArray.size*k:=by simpa using o
  rw[if_pos this]
  simp only[Option.map_some]
  rw[List.getElem?_eq_getElem aJ,Option.getD_some]
  have lb:d.toArray[t/k]! =d[t/k]:=by simp[aJ]
  rw[lb,Zh q.1 q.2,List.getElem?_eq_getElem (by rw[q.1];exact U)]
  simp[q.1,U]
 ·rw[List.getElem?_eq_none (by simp[flatK];omega),List.getElem?_eq_none (by simpa[W]using o)]
theorem ON(w:World)(g b:Nat)(f:Array Value->Array Value):(Go.Sort.mapBlock w g f).heap[b]? =if g=b then(w.heap[b]?).map (Go.Sort.onCells f)else w.heap[b]? :=by
 unfold Go.Sort.mapBlock
 exact Array.getElem?_modify
theorem KW{w:World}{M:Nat->Prop}{t:ah}{e g cap n:Nat}{xs:List t.el}{cells:List Value}{d:List (List Value)}(lj:0<t.cells)(Y:w.ownsRow 0 e t.cells (.slice (some ⟨g,0,none⟩) xs.length cap) xs.length cells)(ai:d.flatten=cells)(Z:me w M t d xs):
  ∃u O,(Ending.returned (.tuple #[]))=.returned u/\Same w (Go.Sort.putRow id (Sort.ahead w n) g 0 d.reverse.flatten.toArray)/\(∀b,b<w.heap.size->aY (.slice (some ⟨g,0,none⟩) xs.length cap)≠some b->(Go.Sort.putRow id (Sort.ahead w n) g 0 d.reverse.flatten.toArray).heap[b]? =w.heap[b]?)/\
   (Go.Sort.putRow id (Sort.ahead w n) g 0 d.reverse.flatten.toArray).ownsRow 0 e t.cells (.slice (some ⟨g,0,none⟩) xs.length cap) (List.length xs.reverse) O/\bT (aL w M t) O xs.reverse:=by
 rcases Y.2 with ⟨o,_⟩|⟨lk,ll,cur,o,la,lb,R,lc,U,lm⟩
 ·cases o
 cases o
 have W:=Ih (Lg Z)
 have ld:d.reverse.flatten.length=xs.length*t.cells:=by
  rw[jC (fun _ _=>cu t) _ _ W,List.length_reverse]
 have ln:xs.length*t.cells<=cur.size:=by rw[U];exact Nat.mul_le_mul_right _ R
 have le:(Go.Sort.putRow id (Sort.ahead w n) g 0 d.reverse.flatten.toArray).heap[g]? =some (.cells (Go.Sort.putCells id 0 d.reverse.flatten.toArray cur) e (0,0)):=by
  unfold Go.Sort.putRow
  rw[ON,if_pos rfl]
  have:(Sort.ahead w n).heap[g]? =some (.cells cur e (0,0)):=lb
  rw[this]
  rfl
 refine⟨_,d.reverse.flatten,rfl,⟨rfl,rfl,rfl,?_,fun _=>Nat.le_add_right _ _⟩,?_,⟨?_,.inr ⟨g,cap,Go.Sort.putCells id 0 d.reverse.flatten.toArray cur,by rw[List.length_reverse],la,le,by rw[List.length_reverse];exact R,lc,?_,?_⟩⟩,W⟩
 ·show w.heap.size<=_
  rw[Go.Sort.size_putRow]
  exact Nat.le_refl _
 ·intro b lo lf
  have lg:b≠g:=fun e=>lf (by rw[e];rfl)
  unfold Go.Sort.putRow
  rw[ON,if_neg lg.symm]
  rfl
 ·rw[ld,List.length_reverse]
 ·rw[<-U]
  simp[Go.Sort.putCells]
 ·rw[List.length_reverse]
  apply List.ext_getElem?
  intro j
  by_cases lh:j<xs.length*t.cells
  ·have li:j<cur.size:=by omega
   have q:j<d.reverse.flatten.length:=by omega
   rw[List.getElem?_take_of_lt lh,Array.getElem?_toList]
   unfold Go.Sort.putCells
   rw[Array.getElem?_mapIdx,Array.getElem?_eq_getElem li,Option.map_some,if_pos ⟨Nat.zero_le _,by simpa using q⟩,List.getElem?_eq_getElem q]
   simp only[Nat.sub_zero,id]
   rw[getElem!_pos _ j (by simpa using q)]
   simp
  ·rw[List.getElem?_eq_none (by simp;omega),List.getElem?_eq_none (by omega)]
theorem held{w:World}{M:Nat->Prop}{t:ah}{e g cap:Nat}{xs:List t.el}{cells:List Value}(q:w.ownsRow 0 e t.cells (.slice (some ⟨g,0,none⟩) xs.length cap) xs.length cells):Go.Sort.Holds id w g 0 cells.toArray:=by
 rcases q.2 with ⟨o,_⟩|⟨Y,Z,cur,o,la,U,lb,lc,ld,le⟩
 ·cases o
 cases o
 intro j O
 have W:j<cells.length:=by simpa using O
 rw[Nat.zero_add]
 refine⟨?_,by simp[World.frozen?,U]⟩
 have R:=q.cells (g:=g) rfl j cells[j] (List.getElem?_eq_getElem W)
 rw[gS,Nat.zero_add]at R
 rw[R,getElem!_pos _ j O]
 rfl
theorem Ke{P:Program}{G:World->Prop}{ρ:Ren}(L:SlLaysE0.n35 P ρ){f e:Nat}{t:ah}(Z:ρ.f 35=f)(la:ρ.t 23=e)(lb:Nat.blt 0 t.cells=true)(lc:∀w,(isAgg e).run P w=.ok true w)(ld:∀w,(Go.sizeOf e).run P w=.ok t.cells w)
  (le:∀args w,(callFunc f args).run P w=.ok (.enter f args) w):xd P G f e t (fun xs O=>O=xs.reverse) where
 enters:=le
 calls:=by
  rintro w M v xs O cells _ rfl o R
  subst Z
  subst la
  rcases o.2 with ⟨q,lf⟩|⟨g,cap,cur,q,lm,ln,lg,lh,lo,lp⟩
  ·have li:xs=[]:=List.length_eq_zero_iff.1 lf
   subst li
   subst q
   refine(AnyQ.slices_Reverse_empty L none 0 w).mono ?_
   rintro e w' ⟨rfl,rfl⟩
   exact⟨_,cells,rfl,⟨rfl,rfl,rfl,Nat.le_refl _,fun _=>Nat.le_refl _⟩,fun _ _ _=>rfl,o,R⟩
  ·subst q
   obtain⟨d,ai,U⟩:=DM R
   obtain⟨W,Y⟩:=BL U
   have lj:HoldsK (kA t.cells) t.cells w g 0 d.toArray:=by
    show Go.Sort.Holds id w g 0 (flatK (kA t.cells) t.cells d.toArray)
    rw[J6 Y,ai]
    exact held (M:=M) o
   have:=AnyQ.slices_Reverse L t.cells lc ld (kA t.cells) (Zi _) (abo _) g 0 cap d.toArray w lj (by simp[W];exact Nat.le_trans lg lh)
   rw[show d.toArray.size=xs.length from by simp[W]]at this
   refine this.mono ?_
   rintro e w' ⟨rfl,n,rfl⟩
   have lk:putRowK (kA t.cells) t.cells (Sort.ahead w n) g 0 d.toArray.reverse=Go.Sort.putRow id (Sort.ahead w n) g 0 d.reverse.flatten.toArray:=by
    unfold putRowK
    rw[show d.toArray.reverse=d.reverse.toArray from by simp,J6 fun c ll=>Y c (List.mem_reverse.1 ll)]
   rw[lk]
   exact KW (dg lb) o ai U
def qO(v:Value):Value:=if v.oneCell'=true then v else .int .i64 0
theorem Mk{v:Value}(h:v.oneCell'=true):qO v=v:=if_pos h
theorem Ts(v:Value):(qO v).oneCell'=true:=by
 unfold qO
 split
 ·assumption
 ·rfl
theorem single{d:List (List Value)}(h:∀c∈d,c.length=1):d.reverse.flatten=d.flatten.reverse:=by
 induction d with
 |nil=>rfl
 |cons c d o=>
  obtain⟨v,rfl⟩:=List.length_eq_one_iff.1 (h c List.mem_cons_self)
  rw[List.reverse_cons,List.flatten_append,o fun c q=>h c (List.mem_cons_of_mem _ q)]
  simp
theorem JF{P:Program}{G:World->Prop}{ρ:Ren}(L:SlLaysE.n35 P ρ){f e:Nat}{t:ah}(lc:ρ.f 35=f)(O:Nat.beq t.cells 1=true)
  (ld:∀args w,(callFunc f args).run P w=.ok (.enter f args) w):xd P G f e t (fun xs R=>R=xs.reverse) where
 enters:=ld
 calls:=by
  rintro w M v xs R cells _ rfl q U
  subst lc
  have O:=Nat.eq_of_beq_eq_true O
  rcases q.2 with ⟨o,le⟩|⟨g,cap,cur,o,lr,ls,lf,lg,lt,lu⟩
  ·have lh:xs=[]:=List.length_eq_zero_iff.1 le
   subst lh
   subst o
   refine(AnyE.slices_Reverse_empty L none 0 w).mono ?_
   rintro e w' ⟨rfl,rfl⟩
   exact⟨_,cells,rfl,⟨rfl,rfl,rfl,Nat.le_refl _,fun _=>Nat.le_refl _⟩,fun _ _ _=>rfl,q,U⟩
  ·subst o
   obtain⟨d,ai,W⟩:=DM U
   obtain⟨lv,Y⟩:=BL W
   have li:∀c∈d,c.length=1:=fun c lj=>by rw[(Y c lj).1,O]
   have Z:∀v∈cells,v.oneCell'=true:=fun v o=>by
    rw[<-ai]at o
    obtain⟨c,lk,ll⟩:=List.mem_flatten.1 o
    exact(Y c lk).2 v ll
   have la:cells.length=xs.length:=by rw[q.1,O,Nat.mul_one]
   have lm:Go.Sort.Holds id w g 0 cells.toArray:=held (M:=M) q
   have ln:Go.Sort.Holds qO w g 0 cells.toArray:=fun j lb=>by
    obtain⟨lo,a2⟩:=lm j lb
    refine⟨?_,a2⟩
    rw[lo,Mk]
    ·rfl
    ·rw[getElem!_pos _ j lb];exact Z _ (by simp)
   have:=AnyE.slices_Reverse L qO Ts g 0 cap cells w ln (by rw[la];exact Nat.le_trans lf lg)
   rw[la]at this
   refine this.mono ?_
   rintro lw w' ⟨rfl,n,rfl⟩
   have lp:Go.Sort.putRow qO (Sort.ahead w n) g 0 cells.reverse.toArray=Go.Sort.putRow id (Sort.ahead w n) g 0 d.reverse.flatten.toArray:=by
    rw[single li,ai]
    unfold Go.Sort.putRow Go.Sort.putCells
    congr 1
    funext c
    congr 1
    funext k x
    split
    ·rename_i lx
     have lq:k-0<cells.reverse.toArray.size:=by omega
     rw[Mk]
     ·rfl
     ·rw[getElem!_pos cells.reverse.toArray (k-0) lq]
      exact Z _ (List.mem_reverse.1 (by simp))
    ·rfl
   rw[lp]
   exact KW (by omega) q ai W
end Go.Ev
namespace Go.Ev
open Go Go.Proofs Go.Shelf Go.RowKit
set_option maxRecDepth 100000
def aaV:Ren:=⟨fun|35=>207|n=>n,fun|22=>69|23=>3|3=>3|4=>4|0=>0|n=>n,fun|n=>n⟩
theorem abF:SlLaysE.n35 Tryz.prog aaV:={
 mixed:=by kernel_rfl
 f35:=⟨Tryz.f207.name,by kernel_rfl,Tryz.func207.trans (congrArg some (by kernel_rfl))⟩
 t0:=Tryz.underlying0
 a0:=Tryz.isAgg0
 z0:=Tryz.sizeOf0
 v0:=Tryz.zeroValue0
 t3:=Tryz.underlying3
 a3:=Tryz.isAgg3
 z3:=Tryz.sizeOf3
 v3:=Tryz.zeroValue3
 t4:=Tryz.underlying4
 a4:=Tryz.isAgg4
 z4:=Tryz.sizeOf4
 v4:=Tryz.zeroValue4
 t22:=Tryz.underlying69
 a22:=Tryz.isAgg69
 z22:=Tryz.sizeOf69
 v22:=Tryz.zeroValue69
 a23:=Tryz.isAgg3
 z23:=Tryz.sizeOf3}
noncomputable def aaO{G:World->Prop}:uU Tryz.prog G:=⟨207,3,(.int .i64),List.reverse,JF abF rfl (by kernel_rfl) (enters_of Tryz.func207 (by kernel_rfl) rfl)⟩
def Qi:Ren:=⟨fun|35=>131|n=>n,fun|22=>61|23=>21|3=>3|4=>4|0=>0|n=>n,fun|n=>n⟩
theorem ZU:SlLaysE.n35 Tryz.prog Qi:={
 mixed:=by kernel_rfl
 f35:=⟨Tryz.f131.name,by kernel_rfl,Tryz.func131.trans (congrArg some (by kernel_rfl))⟩
 t0:=Tryz.underlying0
 a0:=Tryz.isAgg0
 z0:=Tryz.sizeOf0
 v0:=Tryz.zeroValue0
 t3:=Tryz.underlying3
 a3:=Tryz.isAgg3
 z3:=Tryz.sizeOf3
 v3:=Tryz.zeroValue3
 t4:=Tryz.underlying4
 a4:=Tryz.isAgg4
 z4:=Tryz.sizeOf4
 v4:=Tryz.zeroValue4
 t22:=Tryz.underlying61
 a22:=Tryz.isAgg61
 z22:=Tryz.sizeOf61
 v22:=Tryz.zeroValue61
 a23:=Tryz.isAgg21
 z23:=Tryz.sizeOf21}
noncomputable def xe{G:World->Prop}:uU Tryz.prog G:=⟨131,21,(.int .i32),List.reverse,JF ZU rfl (by kernel_rfl) (enters_of Tryz.func131 (by kernel_rfl) rfl)⟩
def Xn:Ren:=⟨fun|35=>167|n=>n,fun|22=>54|23=>125|3=>3|4=>4|0=>0|n=>n,fun|n=>n⟩
theorem Ye:SlLaysE0.n35 Tryz.prog Xn:={
 mixed:=by kernel_rfl
 f35:=⟨Tryz.f167.name,by kernel_rfl,Tryz.func167.trans (congrArg some (by kernel_rfl))⟩
 t0:=Tryz.underlying0
 a0:=Tryz.isAgg0
 z0:=Tryz.sizeOf0
 v0:=Tryz.zeroValue0
 t3:=Tryz.underlying3
 a3:=Tryz.isAgg3
 z3:=Tryz.sizeOf3
 v3:=Tryz.zeroValue3
 t4:=Tryz.underlying4
 a4:=Tryz.isAgg4
 z4:=Tryz.sizeOf4
 v4:=Tryz.zeroValue4
 t22:=Tryz.underlying54
 a22:=Tryz.isAgg54
 z22:=Tryz.sizeOf54
 v22:=Tryz.zeroValue54}
noncomputable def W5{G:World->Prop}:uU Tryz.prog G:=⟨167,125,(.pair (.int .i32) (.pair (.int .u32) (.pair (.int .u32) .unit))),List.reverse,Ke Ye rfl rfl (by kernel_rfl) Tryz.isAgg125 Tryz.sizeOf125 (enters_of Tryz.func167 (by kernel_rfl) rfl)⟩
def TD:Ren:=⟨fun|35=>168|n=>n,fun|22=>55|23=>127|3=>3|4=>4|0=>0|n=>n,fun|n=>n⟩
theorem ZM:SlLaysE0.n35 Tryz.prog TD:={
 mixed:=by kernel_rfl
 f35:=⟨Tryz.f168.name,by kernel_rfl,Tryz.func168.trans (congrArg some (by kernel_rfl))⟩
 t0:=Tryz.underlying0
 a0:=Tryz.isAgg0
 z0:=Tryz.sizeOf0
 v0:=Tryz.zeroValue0
 t3:=Tryz.underlying3
 a3:=Tryz.isAgg3
 z3:=Tryz.sizeOf3
 v3:=Tryz.zeroValue3
 t4:=Tryz.underlying4
 a4:=Tryz.isAgg4
 z4:=Tryz.sizeOf4
 v4:=Tryz.zeroValue4
 t22:=Tryz.underlying55
 a22:=Tryz.isAgg55
 z22:=Tryz.sizeOf55
 v22:=Tryz.zeroValue55}
noncomputable def ab1{G:World->Prop}:uU Tryz.prog G:=⟨168,127,(.pair (.int .i32) (.pair (.int .i64) (.pair (.int .u32) (.pair (.int .u32) .unit)))),List.reverse,Ke ZM rfl rfl (by kernel_rfl) Tryz.isAgg127 Tryz.sizeOf127 (enters_of Tryz.func168 (by kernel_rfl) rfl)⟩
end Go.Ev
namespace Go.Ev
open Go Go.Proofs
noncomputable def aat{G:World->Prop}(k:Nat):cX Tryz.prog G (List Int) Unit:=⟨209,mj k,fun st=>bz st [.rw 21 5 (.int .u8)],fun z=>yG k z,aaU k,fun _ _ h=>h⟩
noncomputable def RY{G:World->Prop}(k:Nat):cX Tryz.prog G (List Int) (List UInt8):=⟨200,uk k,fun st=>bz st [.rw 15 5 (.int .u8)],fun z=>rs k z,TX k,fun _ _ h=>h⟩
end Go.Ev
namespace Go.Ev
open Go Go.Proofs
noncomputable def HV(k:Nat):aS:=⟨[.str],[.int .i32,.int .i64],[],fun s=>utf8_DecodeRuneInString k s⟩
noncomputable def Ha(k:Nat):aG Tryz.prog am:=⟨158,HV k,NS (aab k) (HV k) fun x y h=>h⟩
end Go.Ev
namespace Go.Ev
open Go Go.Proofs Go.Shelf
set_option maxRecDepth 100000
def Uv:Go.Shelf.Ren:=⟨fun|196=>122|259=>156|n=>n,fun|0=>0|3=>3|4=>4|5=>5|9=>9|12=>12|46=>233|53=>108|119=>269|138=>271|139=>272|n=>n,fun|3=>0|4=>1|n=>n⟩
theorem RH:Go.Proofs.Lays.n196 Tryz.prog Uv:={
 mixed:=by kernel_rfl
 f196:=Tryz.func122.trans (congrArg some (by kernel_rfl))
 f259:=Tryz.func156.trans (congrArg some (by kernel_rfl))
 t0:=Tryz.underlying0
 a0:=Tryz.isAgg0
 z0:=Tryz.sizeOf0
 v0:=Tryz.zeroValue0
 t3:=Tryz.underlying3
 a3:=Tryz.isAgg3
 z3:=Tryz.sizeOf3
 v3:=Tryz.zeroValue3
 t4:=Tryz.underlying4
 a4:=Tryz.isAgg4
 z4:=Tryz.sizeOf4
 v4:=Tryz.zeroValue4
 t5:=Tryz.underlying5
 a5:=Tryz.isAgg5
 z5:=Tryz.sizeOf5
 v5:=Tryz.zeroValue5
 t9:=Tryz.underlying9
 a9:=Tryz.isAgg9
 z9:=Tryz.sizeOf9
 v9:=Tryz.zeroValue9
 t12:=Tryz.underlying12
 a12:=Tryz.isAgg12
 z12:=Tryz.sizeOf12
 v12:=Tryz.zeroValue12
 t46:=Tryz.underlying233
 a46:=Tryz.isAgg233
 z46:=Tryz.sizeOf233
 v46:=Tryz.zeroValue233
 t53:=Tryz.underlying108
 a53:=Tryz.isAgg108
 z53:=Tryz.sizeOf108
 v53:=Tryz.zeroValue108
 t119:=Tryz.underlying269
 a119:=Tryz.isAgg269
 z119:=Tryz.sizeOf269
 t138:=Tryz.underlying271
 a138:=Tryz.isAgg271
 z138:=Tryz.sizeOf271
 v138:=Tryz.zeroValue271
 t139:=Tryz.underlying272
 a139:=Tryz.isAgg272
 z139:=Tryz.sizeOf272
 v139:=Tryz.zeroValue272
 g3:=by kernel_rfl
 g4:=by kernel_rfl}
def Ay(k:Nat):jk:=⟨true,1,[],fun|[⟨.str,s⟩],[⟨.bool,b⟩]=>utf8_ValidString k s=some b|_,_=>False⟩
theorem abQ(k:Nat):aV Tryz.prog am 122 (Ay k) where
 enters:=enters_of Tryz.func122 (by kernel_rfl) rfl
 shape:=fun xs aq h=>by
  unfold Ay at h
  simp only at h
  split at h
  ·exact⟨rfl,fun _ u O=>by simp at O;subst O;rfl⟩
  ·exact h.elim
 calls:=fun w M vs xs aq R Y h o=>by
  unfold Ay at h
  simp only at h
  split at h
  case h_2=>exact h.elim
  rename_i s b
  match vs,o with
  |[v],⟨o,_⟩=>
   have q:v=.string ⟨s.toArray⟩/\s.length<=maxLen:=by
    have:=(show aL w M .str [v] s from o)
    exact⟨by simpa using this.1,this.2⟩
   obtain⟨q,U⟩:=q
   subst q
   refine(Any.utf8_ValidString RH ⟨s.toArray⟩ w U R.1).mono ?_
   rintro e w' ⟨rfl,W⟩
   cases h
   exact⟨_,rfl,rfl,Ext.yp W fun h=>h.elim⟩
noncomputable def I6(k:Nat):aS:=⟨[.str],[.bool],[],fun s=>utf8_ValidString k s⟩
noncomputable def Od(k:Nat):aG Tryz.prog am:=⟨122,I6 k,NS (abQ k) (I6 k) fun x y h=>h⟩
end Go.Ev
namespace Go.Ev
open Go
set_option linter.unusedVariables false
def bx(s:List UInt8)(i:Nat):Nat:=(s.getD i 0).toNat
theorem nT(s:List UInt8)(i:Nat):bx s i<256:=UInt8.toNat_lt _
def g(s:List UInt8)(i:Nat):Nat×Nat:=Lib.decodeN (s.length-i) (bx s i) (bx s (i+1)) (bx s (i+2)) (bx s (i+3))
def bad(s:List UInt8)(i:Nat):Bool:=decide ((g s i).1=65533)&&decide ((g s i).2=1)
theorem xm(s:List UInt8)(i:Nat):Utf8.decode ⟨s.toArray⟩ i=g s i:=by
 rw[Lib.decode_at]
 have e:∀j,(ByteArray.get! ⟨s.toArray⟩ j).toNat=bx s j:=by
  intro j
  unfold bx ByteArray.get!
  show(s.toArray[j]!).toNat=_
  by_cases o:j<s.length
  ·simp[o]
  ·simp[o,List.getD_eq_getElem?_getD]
   rfl
 simp only[e]
 rfl
theorem ju(s:List UInt8)(i:Nat)(h:i<s.length):1<=(g s i).2/\i+(g s i).2<=s.length/\(g s i).2<=4:=by
 unfold g Lib.decodeN
 repeat' split
 all_goals simp only;omega
theorem Ps(s:List UInt8)(p:Nat):gJ s p=((g s p).1:Int):=by
 unfold gJ
 show((Utf8.decode ⟨s.toArray⟩ p).1:Int)=_
 rw[xm]
theorem iR(s:List UInt8)(p:Nat):jd s p=(g s p).2:=by
 unfold jd
 show(Utf8.decode ⟨s.toArray⟩ p).2=_
 rw[xm]
theorem fO{x:Int}(h:-9223372036854775808<=x/\x<9223372036854775808):ag x=x:=by
 unfold ag IntKind.wrap
 simp[IntKind.bits,IntKind.signed]
 omega
theorem Gn{x:Int}(h:0<=x/\x<256):iv x=x:=by
 unfold iv IntKind.wrap
 simp[IntKind.bits,IntKind.signed]
 omega
theorem bG{n:Nat}(h:n<9223372036854775807):ag ((n:Int)+1)=((n+1:Nat):Int):=by rw[fO (by omega)];omega
theorem gz{p:Prop}[Decidable p](h:p):aP p=some ():=by unfold aP;rw[if_pos h]
theorem EA{α:Type}{l:List α}{i:Nat}:ar l (i:Int)=l[i]? :=by
 unfold ar
 rw[if_pos (by omega),Int.toNat_natCast]
theorem ff{α:Type}{l:List α}{i:Nat}(h:i<l.length):ar l (i:Int)=some (l[i]'h):=by rw[EA,List.getElem?_eq_getElem h]
theorem FK{α:Type}{l:List α}{i:Int}(o:0<=i)(h:i<l.length):ar l i=some (l[i.toNat]'(by omega)):=by
 unfold ar
 rw[if_pos o,List.getElem?_eq_getElem]
theorem so{s:List UInt8}{i:Nat}(h:i<s.length):eE s (i:Int)=some ((s[i]'h).toNat:Int):=by
 unfold eE
 rw[ff h]
theorem Ol{α:Type}{s:List α}{b:Nat}(h:b<=s.length):dK s 0 (b:Int)=some (s.take b):=by
 unfold dK
 rw[if_pos (by omega),Int.toNat_natCast]
 rfl
theorem kh{α:Type}{s:List α}{p:Nat}(h:p<=s.length):dK s (p:Int) (s.length:Int)=some (s.drop p):=by
 unfold dK
 rw[if_pos (by omega),Int.toNat_natCast,Int.toNat_natCast,List.take_length]
theorem TL(x:List UInt8):fx (dM x)=x:=by
 unfold fx dM
 rw[List.map_map]
 have:((fun n:Int=>UInt8.ofNat n.toNat)∘fun b:UInt8=>(b.toNat:Int))=id:=by
  funext b
  simp
 rw[this,List.map_id]
theorem SU(a b:List UInt8):dM a++dM b=dM (a++b):=by simp[dM]
theorem yC(a:List UInt8):(dM a).length=a.length:=by simp[dM]
end Go.Ev
namespace Go.Ev
open Go
set_option linter.unusedVariables false
def cA{α:Type}(x:Option α):Prop:=∃v,x=some v
theorem cw{α:Type}(v:α):cA (some v):=⟨v,rfl⟩
theorem dv{α β:Type}{x:Option α}{f:α->Option β}(o:cA x)(q:∀v,x=some v->cA (f v)):cA (Option.bind x f):=by
 obtain⟨v,rfl⟩:=o
 exact q v rfl
theorem cY{α:Type}{c:Bool}{a b:Option α}(o:c=true->cA a)(q:c=false->cA b):cA (if c then a else b):=by
 cases c with
 |true=>rw[if_pos rfl];exact o rfl
 |false=>rw[if_neg (by simp)];exact q rfl
theorem gr{α:Type}{p:Prop}[Decidable p]{a b:Option α}(o:p->cA a)(q:¬p->cA b):cA (if decide p then a else b):=
 cY (fun h=>o (of_decide_eq_true h)) (fun h=>q (of_decide_eq_false h))
theorem tf{p:Prop}[Decidable p](h:p):cA (aP p):=⟨(),gz h⟩
theorem kR{α:Type}{l:List α}{i:Nat}(h:i<l.length):cA (ar l (i:Int)):=⟨_,ff h⟩
theorem Zo{α:Type}{l:List α}{i:Int}(o:0<=i)(h:i<l.length):cA (ar l i):=⟨_,FK o h⟩
theorem IB{α β:Type}{L:Nat->Int->α->Option β}{len:Nat}(Y:len<4611686018427387904)(q:Nat->α->Prop)
  (step:∀n i s,q i s->i<=len->(∀o,i<len->q (i+1) o->cA (L n (ag ((i:Int)+1)) o))->cA (L (n+1) (i:Int) s)):∀n i s,i<=len->len-i<n->q i s->cA (L n (i:Int) s):=by
 intro n
 induction n with
 |zero=>intro i s _ h;omega
 |succ n O=>
  intro i s R Z U
  refine step n i s U R fun o la W=>?_
  rw[bG (by omega)]
  exact O (i+1) o (by omega) (by omega) W
theorem rm{β:Type}{L:Nat->Int->Option β}{len:Nat}(O:len<4611686018427387904)
  (step:∀n i,i<=len->(i<len->cA (L n (ag ((i:Int)+1))))->cA (L (n+1) (i:Int))):∀n i,i<=len->len-i<n->cA (L n (i:Int)):=by
 intro n
 induction n with
 |zero=>intro i _ h;omega
 |succ n o=>
  intro i q R
  refine step n i q fun U=>?_
  rw[bG (by omega)]
  exact o (i+1) (by omega) (by omega)
theorem H4{bs:List Bool}(o:bs.length=256)(b:UInt8)(k:Nat):cA (o3 k bs (b.toNat:Int)):=by
 unfold o3
 exact dv (kR (by rw[o];exact UInt8.toNat_lt b)) fun v _=>cw _
theorem XE{bs:List Bool}(o:bs.length=256):∀n (s:List UInt8),s.length<n->s.length<4611686018427387904->∃v,oV 80000 bs n s=some v/\v.length<=s.length:=by
 intro n
 induction n with
 |zero=>intro s h;omega
 |succ n q=>
  intro s h W
  unfold oV CB sB
  by_cases Y:0<s.length
  ·rw[if_pos (by simp only[decide_eq_true_eq];omega),show ag ((s.length:Int)-1)=((s.length-1:Nat):Int) by rw[fO (by omega)];omega,so (by omega)]
   simp only[Option.bind_some]
   obtain⟨v,O⟩:=H4 o (s[s.length-1]'(by omega)) 80000
   rw[O]
   simp only[Option.bind_some]
   cases v with
   |false=>exact⟨s,rfl,Nat.le_refl _⟩
   |true=>
    rw[if_neg (by simp),Ol (by omega)]
    simp only[Option.bind_some]
    obtain⟨v,R,U⟩:=q (s.take (s.length-1)) (by rw[List.length_take];omega) (by rw[List.length_take];omega)
    exact⟨v,R,Nat.le_trans U (by rw[List.length_take];omega)⟩
  ·rw[if_neg (by simp only[decide_eq_true_eq];omega)]
   exact⟨s,rfl,Nat.le_refl _⟩
theorem Sm{bs:List Bool}(q:bs.length=256):∀n (s:List UInt8),s.length<n->cA (oU 80000 bs n s):=by
 intro n
 induction n with
 |zero=>intro s h;omega
 |succ n O=>
  intro s h
  unfold oU Gf rW
  by_cases o:0<s.length
  ·rw[if_pos (by simp only[decide_eq_true_eq];omega),show(0:Int)=((0:Nat):Int)from rfl,so o]
   simp only[Option.bind_some]
   obtain⟨v,R⟩:=H4 q (s[0]'o) 80000
   rw[R]
   simp only[Option.bind_some]
   cases v with
   |false=>exact cw _
   |true=>
    rw[if_neg (by simp),show(1:Int)=((1:Nat):Int)from rfl,kh (by omega)]
    simp only[Option.bind_some]
    exact O _ (by rw[List.length_drop];omega)
  ·rw[if_neg (by simp only[decide_eq_true_eq];omega)]
   exact cw _
theorem NZ{cut:List UInt8}{bs:List Bool}(O:qV 80000 cut=some (bs,true))(o:bs.length=256)(q:cut.length≠1)(U:cut≠[]){s:List UInt8}(R:s.length<80000):cA (od 80000 s cut):=by
 unfold od Fw
 refine cY (fun _=>cw _) fun _=>?_
 rw[if_neg (by simp only[beq_iff_eq];omega)]
 unfold sX
 rw[if_neg (by simp),O]
 simp only[Option.bind_some,if_true]
 unfold yL yQ
 obtain⟨v,q,W⟩:=XE o 80000 s R (by omega)
 rw[q]
 simp only[Option.bind_some]
 exact dv (Sm o 80000 v (by omega)) fun v _=>cw _
def kr:List UInt8:=[97,98,99,100,101,102,103,104,105,106,107,108,109,110,111,112,113,114,115,116,117,118,119,120,121,122]
def yf:List UInt8:=[97,98,99,100,101,102,103,104,105,106,107,108,109,110,111,112,113,114,115,116,117,118,119,120,121,122,48,49,50,51,52,53,54,55,56,57,45]
def mi(o:List UInt8):List Bool:=(List.range 256).map fun i=>o.contains (UInt8.ofNat i)
theorem JO(o:List UInt8):(mi o).length=256:=by simp[mi]
set_option maxRecDepth 100000 in
theorem JZ:qV 80000 kr=some (mi kr,true):=by decide+kernel
set_option maxRecDepth 100000 in
theorem ZL:qV 80000 yf=some (mi yf,true):=by decide+kernel
theorem aan(s:List UInt8):∃b,qU 80000 s=some b/\(b=true->s.length<=32):=by
 unfold qU
 by_cases h:s≠[]/\s.length<=32
 ·rw[show((!(s==([]:List UInt8)))&&decide ((s.length:Int)<=32))=true by simp[h.1];omega]
  unfold E2
  rw[if_pos rfl]
  obtain⟨v,q⟩:=NZ JZ (JO _) (by simp[kr]) (by simp[kr]) (s:=s) (by omega)
  rw[show([97,98,99,100,101,102,103,104,105,106,107,108,109,110,111,112,113,114,115,116,117,118,119,120,121,122]:List UInt8)=kr from rfl,q]
  exact⟨_,rfl,fun _=>h.2⟩
 ·rw[show((!(s==([]:List UInt8)))&&decide ((s.length:Int)<=32))=false by
   rw[Bool.eq_false_iff]
   intro o
   simp only[Bool.and_eq_true,Bool.not_eq_true',beq_eq_false_iff_ne,ne_eq,decide_eq_true_eq]at o
   exact h ⟨o.1,by omega⟩]
  exact⟨false,rfl,fun o=>by cases o⟩
theorem MW(s:List UInt8):cA (xU 80000 s):=by
 unfold xU
 refine gr (fun h=>?_) fun _=>cw _
 refine dv (NZ ZL (JO _) (by simp[yf]) (by simp[yf]) (by omega)) fun v _=>cw _
theorem abn(k:Nat)(r:Int):cA (ro k r):=by
 unfold ro
 repeat' first
  |exact cw _
  |(refine cY (fun _=>?_) fun _=>?_)
  |(unfold r3)
  |(unfold oo)
  |(unfold Bd)
  |(unfold FZ)
  |(unfold o)
theorem xM(k:Nat)(a:List (List UInt8)×List cK×Unit)(p m:Int):cA (k9 k a p m):=by
 unfold k9
 exact dv (tf (by omega)) fun _ _=>cw _
abbrev br:Type:=List (List UInt8)×List cK×Unit
theorem W8(a:br)(h:a.2.1.length<=128):cA (k8 80000 a 80000 0 []):=by
 refine IB (L:=k8 80000 a) (len:=a.2.1.length) (by omega) (fun _ _=>True) ?_ 80000 0 [] (Nat.zero_le _) (by omega) trivial
 intro n i m _ R O
 unfold k8 zS
 refine gr (fun o=>?_) fun _=>cw _
 have o:i<a.2.1.length:=by omega
 refine dv (kR o) fun x _=>dv (abn _ _) fun v _=>?_
 unfold BX
 have q:∀t,cA (qy (k8 80000 a n) (i:Int) m x t):=fun t=>by
  unfold qy
  exact cY (fun _=>cw _) fun _=>O _ o trivial
 exact cY (fun _=>q _) fun _=>dv (xM _ _ _ _) fun _ _=>q _
theorem VN(a:br)(ld:a.1.length<=24)(U:a.2.1.length<=128):∀n i m,i<=a.1.length->a.1.length-i<n->∃e,pd 80000 a n (i:Int) m=some e/\(e=0->∀x∈a.1.drop i,x.length<=32):=by
 intro n
 induction n with
 |zero=>intro i m _ h;omega
 |succ n W=>
  intro i m le lf
  unfold pd GK
  by_cases q:i<a.1.length
  ·rw[if_pos (by simp only[decide_eq_true_eq];omega),ff q]
   simp only[Option.bind_some]
   obtain⟨b,Y,Z⟩:=aan (a.1[i]'q)
   rw[Y]
   simp only[Option.bind_some]
   unfold Bs
   by_cases O:((!b)||((bM (aR .str) m (a.1[i]'q)).getD false))=true
   ·rw[if_pos O]
    exact⟨7,rfl,fun la=>by cases la⟩
   ·rw[if_neg O,bG (by omega)]
    obtain⟨e,R,lb⟩:=W (i+1) (cn (aR .str) m (a.1[i]'q) true) (by omega) (by omega)
    refine⟨e,R,fun lc x o=>?_⟩
    rw[List.drop_eq_getElem_cons q]at o
    rcases List.mem_cons.1 o with rfl|o
    ·refine Z ?_
     cases b with
     |true=>rfl
     |false=>simp at O
    ·exact lb lc x o
  ·rw[if_neg (by simp only[decide_eq_true_eq];omega)]
   obtain⟨e,R⟩:=W8 a U
   exact⟨e,R,fun _ x o=>by rw[List.drop_eq_nil_of_le (by omega)]at o;cases o⟩
theorem pO(a:br):∃e,eK 80000 a=some e/\(e=0->a.1.length<=24/\a.2.1.length<=128/\∀x∈a.1,x.length<=32):=by
 unfold eK Az DG
 by_cases o:((decide ((24:Int)<(a.1.length:Int))||decide ((a.2.1.length:Int)<1))||decide ((128:Int)<(a.2.1.length:Int)))=true
 ·rw[if_pos o]
  exact⟨7,rfl,fun q=>by cases q⟩
 ·rw[if_neg o]
  simp only[Bool.or_eq_true,decide_eq_true_eq]at o
  obtain⟨e,O,R⟩:=VN a (by omega) (by omega) 80000 0 [] (Nat.zero_le _) (by omega)
  exact⟨e,O,fun U=>⟨by omega,by omega,R U⟩⟩
theorem P5(l:List cK)(O:l.length<=128)(r:Int):∃v,yv 80000 l (r,())=some v/\v<(l.length:Int):=by
 unfold yv
 have:∀n i,i<=l.length->l.length-i<n->∃v,uN 80000 l (r,()) n (i:Int)=some v/\v<(l.length:Int):=by
  intro n
  induction n with
  |zero=>intro i _ h;omega
  |succ n o=>
   intro i R U
   unfold uN Jq Bg
   by_cases q:i<l.length
   ·rw[if_pos (by simp only[decide_eq_true_eq];omega),ff q]
    simp only[Option.bind_some]
    split
    ·exact⟨_,rfl,by omega⟩
    ·rw[bG (by omega)]
     exact o (i+1) (by omega) (by omega)
   ·rw[if_neg (by simp only[decide_eq_true_eq];omega)]
    exact⟨-1,rfl,by omega⟩
 exact this 80000 0 (Nat.zero_le _) (by omega)
theorem sw(a:br)(r:Int):cA (jw 80000 a r):=by
 unfold jw
 obtain⟨e,o,q⟩:=pO (a.1,a.2.1,())
 rw[o]
 simp only[Option.bind_some]
 refine cY (fun _=>cw _) fun h=>?_
 have O:e=0:=by simpa using h
 obtain⟨_,R,_⟩:=q O
 obtain⟨v,U,W⟩:=P5 a.2.1 R r
 rw[U]
 simp only[Option.bind_some]
 exact gr (fun _=>cw _) fun Y=>dv (Zo (by omega) W) fun _ _=>cw _
theorem Eb(a:br)(r:Int):cA (qM 80000 a r):=by
 unfold qM
 exact dv (sw _ _) fun _ _=>cw _
theorem Wo(a:br)(p m:Int)(W:a.1.length<=24)(U:∀x∈a.1,x.length<=32):∀n i (o:List UInt8),i<=a.1.length->a.1.length-i<n->o.length<=33*i->cA (rk 80000 a p m n (i:Int) (dM o)):=by
 intro n
 induction n with
 |zero=>intro i o _ h;omega
 |succ n O=>
  intro i o Y Z la
  unfold rk Jo
  refine gr (fun q=>?_) fun _=>?_
  ·have q:i<a.1.length:=by omega
   have lb:=U _ (List.getElem_mem q)
   rw[ff q]
   simp only[Option.bind_some]
   have R:∀(c:UInt8),cA (Option.bind (aP (([c]:List UInt8).length+(a.1[i]'q).length<=bF)) fun _=>Option.bind (oF 80000 (([c]:List UInt8)++(a.1[i]'q)) (dM o)) fun v3=>oW (rk 80000 a p m n) (i:Int) v3.2.2):=by
    intro c
    refine dv (tf (by unfold bF;simp;omega)) fun _ _=>?_
    unfold oF yG
    simp only[Option.bind_some]
    rw[gz (by unfold bF;rw[yC,yC];simp;omega)]
    simp only[Option.bind_some]
    unfold oW
    rw[SU,bG (by omega)]
    exact O (i+1) _ (by omega) (by omega) (by simp;omega)
   refine dv (tf (by omega)) fun _ _=>cY (fun _=>R 43) fun _=>dv (tf (by omega)) fun _ _=>cY (fun _=>R 45) fun _=>?_
   unfold oW
   rw[bG (by omega)]
   exact O (i+1) _ (by omega) (by omega) (by omega)
  ·unfold rs
   rw[TL,if_pos rfl]
   exact cw _
theorem Gk(a:br)(p m:Int):cA (vj 80000 a p m):=by
 unfold vj
 obtain⟨e,q,O⟩:=pO (a.1,a.2.1,())
 rw[q]
 simp only[Option.bind_some]
 refine cY (fun _=>cw _) fun h=>?_
 have R:e=0:=by simpa using h
 obtain⟨o,_,U⟩:=O R
 exact dv (xM _ _ _ _) fun _ _=>cY (fun _=>cw _) fun _=>Wo a p m o U 80000 0 [] (Nat.zero_le _) (by have:a.1.length<=24:=o;omega) (by simp)
theorem PU(a:br)(p m:Int):cA (wS 80000 a p m):=by
 unfold wS
 exact dv (Gk _ _ _) fun _ _=>cw _
theorem tC(a:br)(r p m:Int):cA (rZ 80000 a r p m):=by
 unfold rZ
 exact cY (fun _=>dv (Eb _ _) fun _ _=>cw _) fun _=>dv (PU _ _ _) fun _ _=>cw _
theorem Q4(a:br)(s:Int×Int×Int×Int×Unit)(n:Int):cA (p8 80000 a s n):=by
 have o:∀t,cA (oh 80000 a s t):=fun t=>by
  unfold oh
  exact cY (fun _=>cw _) fun _=>dv (tC _ _ _ _) fun _ _=>cw _
 unfold p8 AB
 exact cY (fun _=>o _) fun _=>cY (fun _=>o _) fun _=>o _
end Go.Ev
namespace Go.Ev
open Go
set_option linter.unusedVariables false
theorem nG{α β:Type}{eq:α->α->Bool}(o:∀x y,eq x y=true↔x=y)(k k':α)(v:β):∀l:List (α×β),(k'=k->bM eq (cn eq l k v) k'=some v)/\(k'≠k->bM eq (cn eq l k v) k'=bM eq l k')
 |[]=>by
  simp only[cn,bM]
  exact⟨fun h=>if_pos ((o _ _).2 h),fun h=>if_neg (fun q=>h ((o _ _).1 q))⟩
 |p::l=>by
  obtain⟨i1,i2⟩:=nG o k k' v l
  simp only[cn]
  by_cases O:eq k p.1=true
  ·have U:=(o _ _).1 O
   rw[if_pos O]
   simp only[bM]
   exact⟨fun h=>if_pos ((o _ _).2 h),fun h=>by rw[if_neg (fun q=>h ((o _ _).1 q)),if_neg (fun q=>h (((o _ _).1 q).trans U.symm))]⟩
  ·rw[if_neg O]
   simp only[bM]
   by_cases R:eq k' p.1=true
   ·have W:=(o _ _).1 R
    simp only[if_pos R]
    exact⟨fun h=>absurd ((o _ _).2 (h.symm.trans W)) O,fun _=>trivial⟩
   ·simp only[if_neg R]
    exact⟨i1,i2⟩
theorem LM(x y:List UInt8):aR .str x y=true↔x=y:=by
 show(x==y)=true↔_
 simp
theorem wA(x y:Int):aR (.int .i32) x y=true↔x=y:=by
 show(x==y)=true↔_
 simp
def y7(b:UInt8):Bool:=decide (97<=b.toNat)&&decide (b.toNat<=122)
def nV(s:List UInt8):Bool:=(decide (1<=s.length)&&decide (s.length<=32))&&s.all y7
theorem abc(b:UInt8):kr.contains b=y7 b:=by
 have key:∀n:Fin 256,kr.contains (UInt8.ofNat n.1)=y7 (UInt8.ofNat n.1):=by decide+kernel
 have:=key ⟨b.toNat,UInt8.toNat_lt b⟩
 simpa using this
theorem KZ(o:List UInt8)(k:Nat)(b:UInt8):o3 k (mi o) (b.toNat:Int)=some (o.contains b):=by
 unfold o3
 rw[EA]
 unfold mi
 rw[List.getElem?_map,List.getElem?_range (UInt8.toNat_lt b)]
 simp
theorem TH{s:List UInt8}(h:0<s.length):s=s.take (s.length-1)++[s[s.length-1]'(by omega)]:=by
 have:=List.take_succ_eq_append_getElem (l:=s) (i:=s.length-1) (by omega)
 rw[<-this,List.take_of_length_le (by omega)]
theorem Zq(o:List UInt8):∀n (s:List UInt8),s.length<n->s.length<4611686018427387904->oV 80000 (mi o) n s=some (s.reverse.dropWhile o.contains).reverse:=by
 intro n
 induction n with
 |zero=>intro s h;omega
 |succ n R=>
  intro s h W
  unfold oV CB sB
  by_cases U:0<s.length
  ·rw[if_pos (by simp only[decide_eq_true_eq];omega),show ag ((s.length:Int)-1)=((s.length-1:Nat):Int) by rw[fO (by omega)];omega,so (by omega)]
   simp only[Option.bind_some]
   rw[KZ]
   simp only[Option.bind_some]
   have q:s.reverse=s[s.length-1]'(by omega)::(s.take (s.length-1)).reverse:=by
    conv=>lhs;rw[TH U]
    simp
   cases O:o.contains (s[s.length-1]'(by omega))with
   |false=>
    rw[if_pos (by rfl),q,List.dropWhile_cons,O,if_neg (by simp),<-q,List.reverse_reverse]
   |true=>
    rw[if_neg (by simp),Ol (by omega)]
    simp only[Option.bind_some]
    rw[R (s.take (s.length-1)) (by rw[List.length_take];omega) (by rw[List.length_take];omega),q,List.dropWhile_cons,O,if_pos rfl]
  ·rw[if_neg (by simp only[decide_eq_true_eq];omega)]
   have:s=[]:=List.length_eq_zero_iff.1 (by omega)
   subst this
   rfl
theorem Vd(o:List UInt8):∀n (s:List UInt8),s.length<n->oU 80000 (mi o) n s=some (s.dropWhile o.contains):=by
 intro n
 induction n with
 |zero=>intro s h;omega
 |succ n q=>
  intro s h
  unfold oU Gf rW
  cases s with
  |nil=>rfl
  |cons b r=>
   rw[if_pos (by simp only[decide_eq_true_eq,List.length_cons];omega),show(0:Int)=((0:Nat):Int)from rfl,so (by simp)]
   simp only[Option.bind_some,List.getElem_cons_zero]
   rw[KZ]
   simp only[Option.bind_some]
   rw[List.dropWhile_cons]
   cases O:o.contains b with
   |false=>rw[if_pos (by rfl),if_neg (by simp)]
   |true=>
    rw[if_neg (by simp),if_pos rfl,show(1:Int)=((1:Nat):Int)from rfl,kh (by simp)]
    simp only[Option.bind_some]
    exact q r (by simpa using h)
theorem Et{p:UInt8->Bool}{l:List UInt8}:l.dropWhile p=[]↔l.all p=true:=by
 induction l with
 |nil=>simp
 |cons a l o=>
  rw[List.dropWhile_cons,List.all_cons]
  cases h:p a with
  |true=>rw[if_pos rfl,o,Bool.true_and]
  |false=>simp
theorem VF{p:UInt8->Bool}{l:List UInt8}{a:UInt8}{r:List UInt8}(h:l.dropWhile p=a::r):p a=false:=by
 induction l with
 |nil=>cases h
 |cons b l o=>
  rw[List.dropWhile_cons]at h
  split at h
  ·exact o h
  ·rename_i q
   cases h
   simpa using q
theorem YO{cut:List UInt8}(O:qV 80000 cut=some (mi cut,true))(Y:cut.length≠1)(R:cut≠[]){s:List UInt8}(U:s.length<80000):∃v,od 80000 s cut=some v/\(v==([]:List UInt8))=s.all cut.contains:=by
 unfold od Fw
 by_cases q:s=[]
 ·subst q
  rw[if_pos (by simp)]
  exact⟨[],rfl,rfl⟩
 ·rw[if_neg (by simp[q,R]),if_neg (by simp only[beq_iff_eq];omega)]
  unfold sX
  rw[if_neg (by simp),O]
  simp only[Option.bind_some,if_true]
  unfold yL yQ
  rw[Zq cut 80000 s U (by omega)]
  simp only[Option.bind_some]
  have Z:((s.reverse.dropWhile cut.contains).reverse).length<=s.length:=by
   rw[List.length_reverse]
   exact Nat.le_trans (List.Sublist.length_le (List.dropWhile_sublist _)) (by rw[List.length_reverse];exact Nat.le_refl _)
  rw[Vd cut 80000 _ (by omega)]
  refine⟨_,rfl,?_⟩
  rw[Bool.eq_iff_iff,beq_iff_eq,Et]
  constructor
  ·intro o
   cases ai:s.reverse.dropWhile cut.contains with
   |nil=>
    have:=Et.1 ai
    rwa [List.all_reverse]at this
   |cons a r=>
    have W:=VF ai
    rw[ai,List.all_reverse,List.all_cons,W]at o
    cases o
  ·intro o
   have:s.reverse.dropWhile cut.contains=[]:=Et.2 (by rw[List.all_reverse];exact o)
   rw[this]
   rfl
theorem RS(s:List UInt8):qU 80000 s=some (nV s):=by
 unfold qU
 by_cases h:s≠[]/\s.length<=32
 ·rw[show((!(s==([]:List UInt8)))&&decide ((s.length:Int)<=32))=true by simp[h.1];omega]
  unfold E2
  rw[if_pos rfl]
  obtain⟨v,O,R⟩:=YO JZ (by simp[kr]) (by simp[kr]) (s:=s) (by omega)
  rw[show([97,98,99,100,101,102,103,104,105,106,107,108,109,110,111,112,113,114,115,116,117,118,119,120,121,122]:List UInt8)=kr from rfl,O]
  simp only[Option.bind_some]
  unfold vw
  rw[R]
  have o:1<=s.length:=by
   cases s with
   |nil=>exact absurd rfl h.1
   |cons _ _=>simp
  unfold nV
  rw[decide_eq_true o,decide_eq_true h.2,Bool.and_true,Bool.true_and,show(kr.contains:UInt8->Bool)=y7 from funext abc]
 ·rw[show((!(s==([]:List UInt8)))&&decide ((s.length:Int)<=32))=false by
   rw[Bool.eq_false_iff]
   intro q
   simp only[Bool.and_eq_true,Bool.not_eq_true',beq_eq_false_iff_ne,ne_eq,decide_eq_true_eq]at q
   exact h ⟨q.1,by omega⟩]
  show some false=_
  unfold nV
  by_cases o:s=[]
  ·subst o;rfl
  ·rw[decide_eq_false (show¬s.length<=32 from fun q=>h ⟨o,q⟩),Bool.and_false,Bool.false_and]
def mI(r:Int):Bool:=((decide (97<=r)&&decide (r<=122))||(decide (65<=r)&&decide (r<=90)))||((decide (161<=r)&&decide (r<=1114111))&&(decide (r≠65533)&&(decide (r<55296)||decide (57343<r))))
theorem aa7{α:Type}{x y:α}(h:x=y):some x=some y:=by rw[h]
theorem XW(r:Int):(Int.fdiv r (2^min ((11:Int)).toNat 32)==(27:Int))=(decide (55296<=r)&&decide (r<=57343)):=by
 have e:(2:Int)^min ((11:Int)).toNat 32=2048:=by decide
 rw[e,Int.fdiv_eq_ediv_of_nonneg _ (by omega),Bool.eq_iff_iff]
 simp
 omega
theorem aar(k:Nat)(r:Int):ro k r=some (mI r):=by
 unfold ro Bd FZ r3 oo mI
 rw[XW,gz (by decide)]
 simp only[Option.bind_some]
 have o:decide (r<161)=!decide (161<=r):=by rw[Bool.eq_iff_iff];simp
 have q:decide (1114111<r)=!decide (r<=1114111):=by rw[Bool.eq_iff_iff];simp
 have O:decide (55296<=r)=!decide (r<55296):=by rw[Bool.eq_iff_iff];simp
 have R:decide (r<=57343)=!decide (57343<r):=by rw[Bool.eq_iff_iff];simp
 rw[o,q,O,R]
 cases decide (97<=r)<;>cases decide (r<=122)<;>cases decide (65<=r)<;>cases decide (r<=90)<;>cases W:decide (161<=r)<;>cases Y:decide (r<=1114111)<;>cases Z:decide (r<55296)<;>cases la:decide (57343<r)<;>(by_cases U:r=65533<;>simp[U])
def Lp(p m:Int):Nat:=BitVec.toNat (BitVec.ofInt 32 p|||BitVec.ofInt 32 m)
def mP(n:Nat)(p m:Int):Bool:=decide (Lp p m<2^n)&&decide (BitVec.toNat (BitVec.ofInt 32 p&&&BitVec.ofInt 32 m)=0)
theorem mm{x:Int}(h:0<=x/\x<4294967296):cH x=x:=by
 unfold cH IntKind.wrap
 simp[IntKind.bits,IntKind.signed]
 omega
theorem Lk(x:BitVec 32):x.toNat<4294967296:=x.isLt
theorem SJ(k:Nat)(a:br)(p m:Int)(h:a.1.length<=24):k9 k a p m=some (mP a.1.length p m):=by
 unfold k9 IC
 rw[gz (by omega)]
 simp only[Option.bind_some]
 have W:=Lk (BitVec.ofInt 32 p|||BitVec.ofInt 32 m)
 have Y:=Lk (BitVec.ofInt 32 p&&&BitVec.ofInt 32 m)
 rw[mm (by omega),mm (by omega)]
 refine aa7 ?_
 have e:(2:Int)^min ((a.1.length:Int)).toNat 32=((2^a.1.length:Nat):Int):=by
  rw[Int.toNat_natCast,Nat.min_eq_left (by omega)]
  simp
 have o:0<2^a.1.length:=Nat.two_pow_pos _
 rw[e]
 unfold mP Lp
 rw[Int.fdiv_eq_ediv_of_nonneg _ (by omega),Bool.eq_iff_iff]
 simp only[Bool.and_eq_true,beq_iff_eq,decide_eq_true_eq]
 have O:((BitVec.toNat (BitVec.ofInt 32 p|||BitVec.ofInt 32 m):Int)/((2^a.1.length:Nat):Int))=((BitVec.toNat (BitVec.ofInt 32 p|||BitVec.ofInt 32 m)/2^a.1.length:Nat):Int):=rfl
 rw[O]
 constructor
 ·rintro⟨q,R⟩
  have U:BitVec.toNat (BitVec.ofInt 32 p|||BitVec.ofInt 32 m)/2^a.1.length=0:=by omega
  exact⟨(Nat.div_eq_zero_iff_lt o).1 U,by omega⟩
 ·rintro⟨q,R⟩
  exact⟨by rw[(Nat.div_eq_zero_iff_lt o).2 q];rfl,by omega⟩
def cI(a:br):Bool:=((decide (a.1.length<=24)&&(decide (1<=a.2.1.length)&&decide (a.2.1.length<=128)))&&(a.1.all nV&&decide a.1.Nodup))&&((a.2.1.all fun l=>mI l.1&&mP a.1.length l.2.1 l.2.2.1)&&decide (a.2.1.map (·.1)).Nodup)
def zj{β:Type}[DecidableEq β](x:β)(l:List β):Bool:=decide (x∈l)
theorem Bn{β:Type}[DecidableEq β]{x:β}{l:List β}(h:x∈l):zj x l=true:=decide_eq_true h
theorem B1{β:Type}[DecidableEq β]{x:β}{l:List β}(h:¬x∈l):zj x l=false:=decide_eq_false h
def iU{α β:Type}[DecidableEq β](key:α->β)(o:α->Bool):List α->List α->Bool
 |_,[]=>true
 |seen,x::xs=>(o x&&!zj (key x) (seen.map key))&&iU key o (seen++[x]) xs
theorem Cb{α β:Type}[DecidableEq β](key:α->β)(q:α->Bool):∀(xs seen:List α),(seen.map key).Nodup->iU key q seen xs=(xs.all q&&decide ((seen++xs).map key).Nodup)
 |[],seen,h=>by simp[iU,h]
 |x::xs,seen,h=>by
  unfold iU
  by_cases o:key x∈seen.map key
  ·rw[Bn o]
   have:¬((seen++x::xs).map key).Nodup:=by
    intro O
    rw[List.map_append,List.nodup_append]at O
    exact O.2.2 _ o _ (by simp) rfl
   rw[decide_eq_false this]
   simp
  ·rw[B1 o]
   have U:((seen++[x]).map key).Nodup:=by
    rw[List.map_append,List.nodup_append]
    refine⟨h,by simp,fun a W b R=>?_⟩
    simp at R
    subst R
    exact fun e=>o (e▸W)
   rw[Cb key q xs (seen++[x]) U,List.append_assoc,List.all_cons]
   simp[Bool.and_assoc]
theorem abm{a:br}(o:a.1.length<=24)(q:1<=a.2.1.length)(O:a.2.1.length<=128):cI a=(iU id nV [] a.1&&iU (·.1) (fun l=>mI l.1&&mP a.1.length l.2.1 l.2.2.1) [] a.2.1):=by
 unfold cI
 rw[Cb id nV a.1 [] (by simp),Cb (·.1) _ a.2.1 [] (by simp),decide_eq_true o,decide_eq_true q,decide_eq_true O]
 simp
theorem KU{a:br}(h:¬(a.1.length<=24/\1<=a.2.1.length/\a.2.1.length<=128)):cI a=false:=by
 rw[Bool.eq_false_iff]
 intro o
 unfold cI at o
 simp only[Bool.and_eq_true,decide_eq_true_eq]at o
 exact h ⟨o.1.1.1,o.1.1.2.1,o.1.1.2.2⟩
theorem LH{α β:Type}[DecidableEq β](key:α->β)(o:α->Bool)(seen:List α)(x:α)(xs:List α):iU key o seen (x::xs)=((o x&&!zj (key x) (seen.map key))&&iU key o (seen++[x]) xs):=rfl
theorem Ny{β:Type}{r x:β}(l:List β)[Decidable (r∈l++[x])](h:r=x):true=decide (r∈l++[x]):=by rw[decide_eq_true (by rw[h];simp)]
theorem II{β:Type}{r x:β}(l:List β)[Decidable (r∈l)][Decidable (r∈l++[x])](h:r≠x):decide (r∈l)=decide (r∈l++[x]):=by
 rw[Bool.eq_iff_iff,decide_eq_true_eq,decide_eq_true_eq,List.mem_append,List.mem_singleton]
 exact⟨.inl,fun o=>o.resolve_right h⟩
theorem aaw(a:br)(R:a.1.length<=24)(h:a.2.1.length<=128):∀n i (m:List (Int×Bool)),i<=a.2.1.length->a.2.1.length-i<n->(∀r:Int,(bM (aR (.int .i32)) m r).getD false=decide (r∈(a.2.1.take i).map fun l=>l.1))->
  k8 80000 a n (i:Int) m=some (if iU (·.1) (fun l=>mI l.1&&mP a.1.length l.2.1 l.2.2.1) (a.2.1.take i) (a.2.1.drop i)then 0 else 7):=by
 intro n
 induction n with
 |zero=>intro i m _ h;omega
 |succ n U=>
  intro i m la lb O
  unfold k8 zS
  by_cases o:i<a.2.1.length
  ·rw[if_pos (by simp only[decide_eq_true_eq];omega),ff o,List.drop_eq_getElem_cons o]
   simp only[Option.bind_some]
   rw[aar,O]
   simp only[Option.bind_some]
   rw[LH]
   unfold BX qy
   have step:k8 80000 a n (ag ((i:Int)+1)) (cn (aR (.int .i32)) m (a.2.1[i]'o).1 true)=some (if iU (·.1) (fun l=>mI l.1&&mP a.1.length l.2.1 l.2.2.1) (a.2.1.take i++[a.2.1[i]'o]) (a.2.1.drop (i+1))then 0 else 7):=by
    rw[bG (by omega),U (i+1) _ (by omega) (by omega),List.take_succ_eq_append_getElem o]
    intro r
    obtain⟨W,Y⟩:=nG wA (a.2.1[i]'o).1 r true m
    rw[List.take_succ_eq_append_getElem o,List.map_append]
    by_cases q:r=(a.2.1[i]'o).1
    ·exact(congrArg (fun aa:Option Bool=>aa.getD false) (W q)).trans (Ny _ q)
    ·exact(congrArg (fun aa:Option Bool=>aa.getD false) (Y q)).trans ((O r).trans (II _ q))
   cases lc:mI (a.2.1[i]'o).1 with
   |false=>rfl
   |true=>
    by_cases ai:(a.2.1[i]'o).1∈(a.2.1.take i).map fun l=>l.1
    ·rw[decide_eq_true ai,Bn ai,if_pos (by simp)]
     simp
    ·rw[decide_eq_false ai,B1 ai,if_neg (by simp)]
     have Z:k9 80000 (a.1,a.2.1,()) (a.2.1[i]'o).2.1 (a.2.1[i]'o).2.2.1=_:=SJ 80000 a _ _ R
     rw[Z]
     simp only[Option.bind_some]
     cases ld:mP a.1.length (a.2.1[i]'o).2.1 (a.2.1[i]'o).2.2.1 with
     |false=>rfl
     |true=>
      rw[if_neg (by simp),step]
      simp
  ·rw[if_neg (by simp only[decide_eq_true_eq];omega),List.drop_eq_nil_of_le (by omega)]
   rfl
theorem Tl(a:br)(R:a.1.length<=24)(U:a.2.1.length<=128):∀n i (m:List bD),i<=a.1.length->a.1.length-i<n->(∀r:List UInt8,(bM (aR .str) m r).getD false=decide (r∈(a.1.take i).map id))->
  pd 80000 a n (i:Int) m=some (if iU id nV (a.1.take i) (a.1.drop i)&&iU (·.1) (fun l=>mI l.1&&mP a.1.length l.2.1 l.2.2.1) [] a.2.1 then 0 else 7):=by
 intro n
 induction n with
 |zero=>intro i m _ h;omega
 |succ n W=>
  intro i m la lb O
  unfold pd GK
  by_cases o:i<a.1.length
  ·rw[if_pos (by simp only[decide_eq_true_eq];omega),ff o,List.drop_eq_getElem_cons o]
   simp only[Option.bind_some]
   rw[RS,O]
   simp only[Option.bind_some]
   rw[LH]
   unfold Bs
   cases lc:nV (a.1[i]'o)with
   |false=>rfl
   |true=>
    by_cases ai:(a.1[i]'o)∈(a.1.take i).map id
    ·rw[decide_eq_true ai,Bn (show id (a.1[i]'o)∈(a.1.take i).map id from ai)]
     rfl
    ·rw[decide_eq_false ai,B1 (show¬id (a.1[i]'o)∈(a.1.take i).map id from ai),if_neg (by simp),bG (by omega),W (i+1) _ (by omega) (by omega),List.take_succ_eq_append_getElem o]
     ·simp
     ·intro r
      obtain⟨Y,Z⟩:=nG LM (a.1[i]'o) r true m
      rw[List.take_succ_eq_append_getElem o,List.map_append]
      by_cases q:r=a.1[i]'o
      ·exact(congrArg (fun aa:Option Bool=>aa.getD false) (Y q)).trans (Ny _ q)
      ·exact(congrArg (fun aa:Option Bool=>aa.getD false) (Z q)).trans ((O r).trans (II _ q))
  ·rw[if_neg (by simp only[decide_eq_true_eq];omega),List.drop_eq_nil_of_le (by omega)]
   have:=aaw a R U 80000 0 [] (Nat.zero_le _) (by omega) (fun r=>by simp[bM])
   simp only[List.take_zero,List.drop_zero]at this
   refine Eq.trans this ?_
   simp[iU]
theorem kb(a:br):eK 80000 a=some (if cI a then 0 else 7):=by
 unfold eK Az DG
 by_cases o:a.1.length<=24/\1<=a.2.1.length/\a.2.1.length<=128
 ·rw[if_neg (by simp only[Bool.or_eq_true,decide_eq_true_eq];omega),abm o.1 o.2.1 o.2.2]
  have:=Tl a o.1 o.2.2 80000 0 [] (Nat.zero_le _) (by omega) (fun r=>by simp[bM])
  simp only[List.take_zero,List.drop_zero]at this
  exact this
 ·rw[if_pos (by simp only[Bool.or_eq_true,decide_eq_true_eq];omega),KU o]
  rfl
end Go.Ev
namespace Go.Ev
open Go
set_option linter.unusedVariables false
abbrev Node:Type:=Int×Int×Int×Int×List Int×Unit
abbrev jl:Type:=List Node×Unit
theorem L3(l:List Bool)(q:l.length<=1000)(v:Bool):cA (pl 80000 l v):=by
 unfold pl zy
 refine dv (rm (L:=po l v) (len:=l.length) (by omega) ?_ 80000 0 (Nat.zero_le _) (by omega)) fun _ _=>cw _
 intro n i O o
 unfold po DI
 exact gr (fun h=>dv (kR (by omega)) fun _ _=>cY (fun _=>cw _) fun _=>o (by omega)) fun _=>cw _
theorem vH{l:List Bool}{i:Nat}(h:i<l.length)(o:l[i]=false):(l.set i true).count false+1=l.count false:=by
 rw[List.count_set h,o]
 have:0<l.count false:=List.count_pos_iff.2 (o▸List.getElem_mem h)
 simp
 omega
theorem aaX(x:Node)(i:Nat)(p:jl)(q:Int->List Bool->Option Bool)(Z:p.1.length<=256)(U:∀t,t.length=p.1.length->cA (q (ag ((i:Int)+1)) t)):
  ∀n j (t:List Bool),t.length=p.1.length->t.count false<n->j+t.count false<=1000->cA (o4 x (i:Int) p q n (j:Int) t):=by
 intro n
 induction n with
 |zero=>intro j t _ h;omega
 |succ n W=>
  intro j t O la lb
  unfold o4 Cd
  refine gr (fun lc=>?_) fun _=>U t O
  refine dv (kR (by omega)) fun y _=>?_
  unfold Bt
  refine cY (fun _=>⟨false,rfl⟩) fun R=>?_
  have ld:(i:Int)<y/\y<(p.1.length:Int):=by
   simp only[Bool.or_eq_false_iff,decide_eq_false_iff_not]at R
   omega
  obtain⟨m,rfl⟩:∃m:Nat,y=(m:Int):=⟨y.toNat,by omega⟩
  have o:m<t.length:=by omega
  rw[ff o]
  simp only[Option.bind_some]
  unfold tW
  refine cY (fun _=>cw _) fun Y=>?_
  have R:=vH o Y
  rw[bG (by omega),Int.toNat_natCast,ff o]
  simp only[Option.bind_some]
  exact W (j+1) (t.set m true) (by rw[List.length_set];exact O) (by omega) (by omega)
theorem aa5(p:jl):∃b,jW 80000 p=some b/\(b=true->p.1.length<=256):=by
 unfold jW
 by_cases q:(decide ((p.1.length:Int)<1)||decide ((256:Int)<(p.1.length:Int)))=true
 ·rw[q]
  exact⟨false,rfl,fun Z=>by cases Z⟩
 ·rw[Bool.eq_false_iff.2 q]
  simp only[Bool.or_eq_true,decide_eq_true_eq]at q
  have lf:1<=p.1.length:=by omega
  have R:p.1.length<=256:=by omega
  have key:cA (wm 80000 p false):=by
   unfold wm
   rw[if_neg (by simp)]
   refine dv (tf (by unfold bF;omega)) fun _ _=>?_
   rw[Int.toNat_natCast]
   refine IB (L:=gL 80000 p) (len:=p.1.length) (by omega) (fun _ t=>t.length=p.1.length) ?_ 80000 0 _ (Nat.zero_le _) (by omega) (by simp)
   intro n i t la lg lb
   unfold gL BN
   refine gr (fun lh=>?_) fun _=>?_
   ·refine dv (kR (by omega)) fun x _=>?_
    have U:∀b,cA (pE 80000 x (i:Int) p (gL 80000 p n) t b):=fun b=>by
     unfold pE
     refine cY (fun _=>cw _) fun _=>?_
     have li:t.count false<=t.length:=List.count_le_length
     exact aaX x i p _ R (fun lc ld=>lb lc (by omega) ld) 80000 0 t la (by omega) (by omega)
    have O:cA (nL 80000 x (i:Int) p (gL 80000 p n) t):=by
     unfold nL Ai
     exact cY (fun _=>U _) fun _=>U _
    have o:∀b,cA (kG 80000 x (i:Int) p (gL 80000 p n) t b):=fun b=>by
     unfold kG
     exact cY (fun _=>cY (fun _=>cw _) fun _=>O) fun _=>cw _
    have W:∀b,cA (oP 80000 x (i:Int) p (gL 80000 p n) t b):=fun b=>by
     unfold oP
     exact cY (fun _=>cY (fun _=>cw _) fun _=>O) fun _=>cY (fun _=>o _) fun _=>cY (fun _=>o _) fun _=>cY (fun _=>o _) fun _=>cY (fun _=>o _) fun _=>o _
    have Y:∀b,cA (o5 80000 x (i:Int) p (gL 80000 p n) t b):=fun b=>by
     unfold o5
     exact cY (fun _=>O) fun _=>cY (fun _=>W _) fun _=>W _
    exact cY (fun _=>Y _) fun _=>Y _
   ·rw[show(1:Int)=((1:Nat):Int)from rfl,kh (by omega)]
    simp only[Option.bind_some]
    exact dv (L3 _ (by rw[List.length_drop];omega) _) fun _ _=>cw _
  obtain⟨b,le⟩:=key
  exact⟨b,le,fun _=>R⟩
theorem Mr(a:br)(p:jl):cA (oK 80000 a p):=by
 unfold oK
 obtain⟨e,q,_⟩:=pO (a.1,a.2.1,())
 rw[q]
 simp only[Option.bind_some]
 refine cY (fun _=>cw _) fun _=>?_
 obtain⟨b,O,R⟩:=aa5 (p.1,())
 rw[O]
 simp only[Option.bind_some]
 refine cY (fun _=>cw _) fun h=>?_
 have U:p.1.length<=256:=R (by simpa using h)
 refine rm (L:=nZ 80000 p a) (len:=p.1.length) (by omega) ?_ 80000 0 (Nat.zero_le _) (by omega)
 intro n i W o
 unfold nZ Hr qH
 exact gr (fun Y=>dv (kR (by omega)) fun x _=>cY (fun _=>dv (sw _ _) fun _ _=>cY (fun _=>cw _) fun _=>o (by omega))
  fun _=>cY (fun _=>dv (Gk _ _ _) fun _ _=>cY (fun _=>cw _) fun _=>o (by omega)) fun _=>o (by omega)) fun _=>cw _
abbrev fl:Type:=List UInt8×List cK×List nu×jl×jl×Int×Bool×Unit
theorem ZI(a:br)(r:fl):cA (mu 80000 a r):=by
 unfold mu
 obtain⟨e,O,_⟩:=pO (a.1,a.2.1,())
 rw[O]
 simp only[Option.bind_some]
 refine cY (fun _=>cw _) fun _=>dv (MW _) fun v _=>?_
 unfold Hd Ft Ep Cp FQ
 refine cY (fun _=>cw _) fun R=>?_
 simp only[Bool.or_eq_false_iff,decide_eq_false_iff_not]at R
 have Y:r.2.1.length<=8:=by omega
 have Z:r.2.2.1.length<=8:=by omega
 have q:∀t,cA (rB t):=fun t=>by
  unfold rB
  exact cY (fun _=>cw _) fun _=>cw _
 have l2:cA (nJ 80000 r a 80000 0):=by
  refine rm (L:=nJ 80000 r a) (len:=r.2.2.1.length) (by omega) ?_ 80000 0 (Nat.zero_le _) (by omega)
  intro n i U o
  unfold nJ G5
  exact gr (fun W=>dv (kR (by omega)) fun x _=>dv (Q4 _ _ _) fun _ _=>cY (fun _=>cw _) fun _=>o (by omega))
   fun _=>dv (Mr _ _) fun _ _=>cY (fun _=>q _) fun _=>dv (Mr _ _) fun _ _=>q _
 refine rm (L:=pk 80000 r a) (len:=r.2.1.length) (by omega) ?_ 80000 0 (Nat.zero_le _) (by omega)
 intro n i U o
 unfold pk Bl
 exact gr (fun W=>dv (kR (by omega)) fun x _=>dv (tC _ _ _ _) fun _ _=>cY (fun _=>cw _) fun _=>o (by omega)) fun _=>l2
end Go.Ev
namespace Go.Ev
open Go
set_option linter.unusedVariables false
def Has{α:Type}(x:Option α)(P:α->Prop):Prop:=∃v,x=some v/\P v
theorem az{α:Type}{P:α->Prop}{v:α}(h:P v):Has (some v) P:=⟨v,rfl,h⟩
theorem bn{α β:Type}{x:Option α}{f:α->Option β}{Q:α->Prop}{P:β->Prop}(o:Has x Q)(q:∀v,Q v->Has (f v) P):Has (Option.bind x f) P:=by
 obtain⟨v,rfl,O⟩:=o
 exact q v O
theorem aQ{α:Type}{P:α->Prop}{c:Bool}{a b:Option α}(o:c=true->Has a P)(q:c=false->Has b P):Has (if c then a else b) P:=by
 cases c with
 |true=>rw[if_pos rfl];exact o rfl
 |false=>rw[if_neg (by simp)];exact q rfl
theorem bO{α:Type}{P:α->Prop}{p:Prop}[Decidable p]{a b:Option α}(o:p->Has a P)(q:¬p->Has b P):Has (if decide p then a else b) P:=
 aQ (fun h=>o (of_decide_eq_true h)) (fun h=>q (of_decide_eq_false h))
theorem cf{β:Type}{p:Prop}[Decidable p]{f:Unit->Option β}{P:β->Prop}(h:p)(o:Has (f ()) P):Has (Option.bind (aP p) f) P:=by
 rw[gz h]
 exact o
theorem bX{α β:Type}{l:List α}{i:Nat}{f:α->Option β}{P:β->Prop}(h:i<l.length)(o:∀x,l[i]'h=x->Has (f x) P):Has (Option.bind (ar l (i:Int)) f) P:=by
 rw[ff h]
 exact o _ rfl
theorem Vh{α β:Type}{l:List α}{i:Int}{f:α->Option β}{P:β->Prop}(o:0<=i)(h:i<l.length)(q:∀x,x∈l->Has (f x) P):Has (Option.bind (ar l i) f) P:=by
 rw[FK o h]
 exact q _ (List.getElem_mem _)
theorem jZ{α:Type}{x:Option α}{P Q:α->Prop}(h:Has x P)(aJ:∀v,P v->Q v):Has x Q:=by
 obtain⟨v,e,o⟩:=h
 exact⟨v,e,aJ v o⟩
theorem gC{α:Type}{x:Option α}(h:cA x):Has x fun _=>True:=by
 obtain⟨v,e⟩:=h
 exact⟨v,e,trivial⟩
abbrev fz:Type:=List (List Int×Option nf)
abbrev cZ:Type:=Int×Int×Int×Unit
abbrev fy:Type:=Int×Int×Int×Int×Unit
abbrev oX:Type:=List Node×List Int×List UInt8×List cZ×List fy×List Node×List Node×Int×Bool×fz×List (List UInt8)×List cZ×List Bool×List Bool
abbrev AC:Type:=Int->List Node->List Int->List UInt8->List cZ->List fy->List Node->List Node->Int->Bool->fz->List (List UInt8)->List cZ->List Bool->Option oX
theorem pU:(1000000:Int)<=(bF:Int):=by decide
theorem gN:(1000000:Nat)<=bF:=by decide
def ef(o:List Node):Prop:=1<=o.length/\o.length<=1000/\∀i (h:i<o.length),(∀k∈(o[i]'h).2.2.2.2.1,(i:Int)<k/\k<(o.length:Int))/\((o[i]'h).1=8\/(o[i]'h).1=9->(o[i]'h).2.2.2.2.1≠[])/\(o[i]'h).2.2.2.2.1.length<=1000
section ends
variable {c1:List Node} {c2:List Int} {c3:List UInt8} {c4:List cZ} {c5:List fy} {c6 c7:List Node} {c8:Int} {c9:Bool} {m1:fz} {c10:List (List UInt8)} {c11:List cZ}
variable {L:Nat}
theorem Mb(k:Nat)(x r p m:Int)(a:List UInt8)(b:List cZ)(c:List fy)(d e:List Node)(f:Int)(g:Bool)(m1:fz)(h:List (List UInt8))(i:List cZ):Has (oG k x r p m a b c d e f g m1 h i) fun _=>True:=by
 unfold oG
 exact aQ (fun _=>az trivial) fun _=>az trivial
theorem abt(k:Nat)(q:Node){l1:List Bool}(U:L<=40000)(W:c2.length+1=L)(Y:l1.length=L):∀n (i:Nat) (t:List Bool),i+1<=L->L-i<n->t.length=L->
  Has (pS k c2 l1 q c3 c4 c5 c6 c7 c8 c9 m1 c10 c11 c1 n (i:Int) t) fun v=>∃aa,v=(c1,c2,c3,c4,c5,c6,c7,c8,c9,m1,c10,c11,aa,l1)/\aa.length=L:=by
 intro n
 induction n with
 |zero=>intro i t _ h;omega
 |succ n R=>
  intro i t Z la O
  unfold pS LI
  refine bO (fun lb=>?_) fun _=>?_
  ·refine bX (by omega) fun lc _=>?_
   refine bX (by omega) fun ld _=>?_
   have o:∀b,Has (tl t (i:Int) (pS k c2 l1 q c3 c4 c5 c6 c7 c8 c9 m1 c10 c11 c1 n) b) fun v=>∃aa,v=(c1,c2,c3,c4,c5,c6,c7,c8,c9,m1,c10,c11,aa,l1)/\aa.length=L:=by
    intro b
    unfold tl
    rw[bG (by omega)]
    refine bX (by omega) fun _ _=>?_
    exact R (i+1) _ (by omega) (by omega) (by rw[List.length_set];exact O)
   refine aQ (fun _=>?_) fun _=>o _
   refine aQ (fun _=>o _) fun _=>?_
   exact bn (Mb ..) fun _ _=>o _
  ·unfold gu
   exact az ⟨t,rfl,O⟩
theorem Wp{o:Node}{q:AC}{l1:List Bool}(la:l1.length=L)(lb:o.2.2.2.2.1.length<=1000)
  (R:∀x∈o.2.2.2.2.1,∀l:List Bool,l.length=L->Has (q x c1 c2 c3 c4 c5 c6 c7 c8 c9 m1 c10 c11 l) fun v=>∃aa,v=(c1,c2,c3,c4,c5,c6,c7,c8,c9,m1,c10,c11,aa,l)/\aa.length=L):
  ∀n (i:Nat) (t:List Bool),i<=o.2.2.2.2.1.length->o.2.2.2.2.1.length-i<n->t.length=L->
  Has (uo o q l1 n (i:Int) c1 c2 c3 c4 c5 c6 c7 c8 c9 m1 c10 c11 t) fun v=>∃aa,v=(c1,c2,c3,c4,c5,c6,c7,c8,c9,m1,c10,c11,aa,l1)/\aa.length=L:=by
 intro n
 induction n with
 |zero=>intro i t _ h;omega
 |succ n U=>
  intro i t lc ld O
  unfold uo Pe
  refine bO (fun le=>?_) fun _=>?_
  ·refine bX (by omega) fun W Y=>?_
   refine bn (R W (Y▸List.getElem_mem _) t O) ?_
   rintro v ⟨aa,rfl,Z⟩
   rw[bG (by omega)]
   exact U (i+1) aa (by omega) (by omega) Z
  ·unfold gu
   exact az ⟨t,rfl,O⟩
theorem Ym{v3:oX}{aa l:List Bool}(O:v3=(c1,c2,c3,c4,c5,c6,c7,c8,c9,m1,c10,c11,aa,l))(Y:L<=40000)(Z:aa.length=L){P:oX->Prop}
  (o:Int->List Node->List Int->List UInt8->List cZ->List fy->List Node->List Node->Int->Bool->fz->List (List UInt8)->List cZ->List Bool->List Bool->Option oX)(t45:Int)
  (R:∀t:List Bool,t.length=L->Has (o (ag (t45+1)) c1 c2 c3 c4 c5 c6 c7 c8 c9 m1 c10 c11 t l) P):
  ∀n (i:Nat) (t:List Bool),i<=L->L-i<n->t.length=L->Has (sc v3 o t45 n (i:Int) t) P:=by
 subst O
 intro n
 induction n with
 |zero=>intro i t _ h;omega
 |succ n U=>
  intro i t la lb q
  unfold sc Iz
  refine bO (fun W=>?_) fun _=>R t q
  have lc:i<L:=by
   have:(i:Int)<(aa.length:Int):=W
   omega
  refine bX (l:=aa) (by omega) fun ld _=>?_
  refine bX (by omega) fun le _=>?_
  unfold K9
  refine bX (by omega) fun _ _=>?_
  rw[bG (by omega)]
  exact U (i+1) _ (by omega) (by omega) (by rw[List.length_set];exact q)
theorem Vf{k:Nat}{o:Node}{q:AC}{l1:List Bool}(R:L<=40000)(le:L<k)(U:l1.length=L)(lf:o.2.2.2.2.1.length<=1000)
  (W:∀x∈o.2.2.2.2.1,∀l:List Bool,l.length=L->Has (q x c1 c2 c3 c4 c5 c6 c7 c8 c9 m1 c10 c11 l) fun v=>∃aa,v=(c1,c2,c3,c4,c5,c6,c7,c8,c9,m1,c10,c11,aa,l)/\aa.length=L):
  ∀n (i:Nat) (t:List Bool),i<=o.2.2.2.2.1.length->o.2.2.2.2.1.length-i<n->t.length=L->
  Has (tL k o q n (i:Int) c1 c2 c3 c4 c5 c6 c7 c8 c9 m1 c10 c11 t l1) fun v=>∃aa,v=(c1,c2,c3,c4,c5,c6,c7,c8,c9,m1,c10,c11,aa,l1)/\aa.length=L:=by
 intro n
 induction n with
 |zero=>intro i t _ h;omega
 |succ n Y=>
  intro i t lg lh O
  unfold tL I2
  refine bO (fun li=>?_) fun _=>?_
  ·refine bX (by omega) fun Z la=>?_
   refine bn (W Z (la▸List.getElem_mem _) l1 U) ?_
   rintro v ⟨aa,rfl,lb⟩
   refine Ym (c1:=c1) (c2:=c2) (c3:=c3) (c4:=c4) (c5:=c5) (c6:=c6) (c7:=c7) (c8:=c8) (c9:=c9) (m1:=m1) (c10:=c10) (c11:=c11) rfl R lb _ _ (fun lc ld=>?_) k 0 t (Nat.zero_le _) (by omega) O
   rw[bG (by omega)]
   exact Y (i+1) lc (by omega) (by omega) ld
  ·unfold gu
   exact az ⟨t,rfl,O⟩
theorem Z6{v4:oX}{aa l:List Bool}(q:v4=(c1,c2,c3,c4,c5,c6,c7,c8,c9,m1,c10,c11,aa,l))(U:L<=40000)(W:l.length=L):
  ∀n (i:Nat) (t:List Bool),i<=L->L-i<n->t.length=L->Has (th v4 n (i:Int) t) fun v=>∃aa,v=(c1,c2,c3,c4,c5,c6,c7,c8,c9,m1,c10,c11,aa,l)/\aa.length=L:=by
 subst q
 intro n
 induction n with
 |zero=>intro i t _ h;omega
 |succ n O=>
  intro i t Y Z o
  unfold th NK
  refine bO (fun R=>?_) fun _=>?_
  ·have la:i<L:=by
    have:(i:Int)<(l.length:Int):=R
    omega
   refine bX (l:=l) (by omega) fun _ _=>?_
   refine bX (by omega) fun _ _=>?_
   unfold KJ
   refine bX (by omega) fun _ _=>?_
   rw[bG (by omega)]
   exact O (i+1) _ (by omega) (by omega) (by rw[List.length_set];exact o)
  ·unfold gu
   exact az ⟨t,rfl,o⟩
abbrev UP:Type:=Int->Int->Int->Int->List Int->List Node->List Int->List UInt8->List cZ->List fy->List Node->List Node->Int->Bool->fz->List (List UInt8)->List cZ->List Bool->List Bool->Option oX
theorem Z8{v5:oX}{aa Y l:List Bool}(lb:v5=(c1,c2,c3,c4,c5,c6,c7,c8,c9,m1,c10,c11,aa,Y))(lh:L<=40000)(li:aa.length=L)(O:UP)(R U n3 n4:Int)(W:List Int){f0:Nat}
  (lc:∀t:List Bool,t.length=L->t.count false<f0->Has (O R U n3 n4 W c1 c2 c3 c4 c5 c6 c7 c8 c9 m1 c10 c11 t l) fun v=>∃aa,v=(c1,c2,c3,c4,c5,c6,c7,c8,c9,m1,c10,c11,aa,l)/\aa.length=L):
  ∀n o (i:Nat) (t:List Bool),i<=L->L-i<n->t.length=L->(t.count false<=f0/\(o=true->t.count false<f0))->
   Has (qY v5 l O R U n3 n4 W n o (i:Int) t) fun v=>∃aa,v=(c1,c2,c3,c4,c5,c6,c7,c8,c9,m1,c10,c11,aa,l)/\aa.length=L:=by
 subst lb
 intro n
 induction n with
 |zero=>intro o i t _ h;omega
 |succ n Z=>
  intro o i t lj lk q la
  unfold qY NY
  refine bO (fun ld=>?_) fun _=>?_
  ·have ll:i<L:=by
    have:(i:Int)<(aa.length:Int):=ld
    omega
   refine bX (l:=aa) (by omega) fun _ _=>?_
   have no:Has (oz t (i:Int) (qY (c1,c2,c3,c4,c5,c6,c7,c8,c9,m1,c10,c11,aa,Y) l O R U n3 n4 W n) o false) fun v=>∃aa,v=(c1,c2,c3,c4,c5,c6,c7,c8,c9,m1,c10,c11,aa,l)/\aa.length=L:=by
    unfold oz r8
    rw[if_neg (by simp),bG (by omega)]
    exact Z o (i+1) t (by omega) (by omega) q la
   refine aQ (fun _=>?_) fun _=>no
   refine bX (by omega) fun le lf=>?_
   cases le with
   |true=>exact no
   |false=>
    show Has (oz _ _ _ _ true) _
    unfold oz r8
    rw[if_pos rfl]
    refine bX (by omega) fun _ _=>?_
    rw[bG (by omega)]
    have lm:=vH (l:=t) (i:=i) (by omega) lf
    rw[Int.toNat_natCast]
    exact Z true (i+1) _ (by omega) (by omega) (by rw[List.length_set];exact q) ⟨by omega,fun _=>by omega⟩
  ·refine aQ (fun _=>?_) fun lg=>lc t q (la.2 (by simpa using lg))
   unfold gu
   exact az ⟨t,rfl,q⟩
theorem Uf{k:Nat}{o:AC}{l1:List Bool}(R:L<=40000)(le:L<k)(lf:l1.length=L){U W n3 n4 x:Int}{q:List Int}
  (Y:∀l:List Bool,l.length=L->Has (o x c1 c2 c3 c4 c5 c6 c7 c8 c9 m1 c10 c11 l) fun v=>∃aa,v=(c1,c2,c3,c4,c5,c6,c7,c8,c9,m1,c10,c11,aa,l)/\aa.length=L):
  ∀n (t:List Bool),t.count false<n->t.length=L->
  Has (sL k o n U W n3 n4 (x::q) c1 c2 c3 c4 c5 c6 c7 c8 c9 m1 c10 c11 t l1) fun v=>∃aa,v=(c1,c2,c3,c4,c5,c6,c7,c8,c9,m1,c10,c11,aa,l1)/\aa.length=L:=by
 intro n
 induction n with
 |zero=>intro t h;omega
 |succ n Z=>
  intro t lg O
  unfold sL Ls
  refine bX (l:=x::q) (i:=0) (by simp) fun y la=>?_
  obtain rfl:x=y:=la
  refine bn (Y t O) ?_
  rintro v ⟨aa,rfl,lb⟩
  refine Z8 (c1:=c1) (c2:=c2) (c3:=c3) (c4:=c4) (c5:=c5) (c6:=c6) (c7:=c7) (c8:=c8) (c9:=c9) (m1:=m1) (c10:=c10) (c11:=c11) rfl R lb _ _ _ _ _ _ (f0:=t.count false) (fun lc ld lh=>?_) k false 0 t (Nat.zero_le _) (by omega) O ⟨Nat.le_refl _,fun h=>nomatch h⟩
  exact Z lc (by omega) ld
theorem u7{l1:List Bool}(o:l1.length=L):(l1++List.drop l1.length (List.replicate L false)).length=L:=by
 rw[List.length_append,List.length_drop,List.length_replicate]
 omega
theorem XO(lf:ef c1)(R:L<=40000)(lc:c2.length+1=L):∀d k (O:Nat),O<c1.length->c1.length-O<=d->60000+d<=k->∀l:List Bool,l.length=L->
  Has (hO k (O:Int) c1 c2 c3 c4 c5 c6 c7 c8 c9 m1 c10 c11 l) fun v=>∃aa,v=(c1,c2,c3,c4,c5,c6,c7,c8,c9,m1,c10,c11,aa,l)/\aa.length=L:=by
 intro d
 induction d with
 |zero=>intro k O Z lg;omega
 |succ d lh=>
  intro k O Z lg lq l o
  obtain⟨k,rfl⟩:∃m,k=m+1:=⟨k-1,by omega⟩
  have q:=lf.2.2 O Z
  have ld:ag ((c2.length:Int)+1)=(L:Int):=by rw[bG (by omega),lc]
  have lr:=pU
  unfold hO
  refine bX Z fun U li=>?_
  rw[li]at q
  have W:∀x∈U.2.2.2.2.1,∀l:List Bool,l.length=L->Has (hO k x c1 c2 c3 c4 c5 c6 c7 c8 c9 m1 c10 c11 l) fun v=>∃aa,v=(c1,c2,c3,c4,c5,c6,c7,c8,c9,m1,c10,c11,aa,l)/\aa.length=L:=by
   intro x lj l o
   have:=q.1 x lj
   obtain⟨m,rfl⟩:∃m:Nat,x=(m:Int):=⟨x.toNat,by omega⟩
   exact lh k m (by omega) (by omega) (by omega) l o
  rw[ld]
  refine cf ⟨by omega,by omega,by omega⟩ ?_
  have Y:(List.replicate ((L:Int)).toNat false).length=L:=by simp
  have la:∀b,Has (rG k c2 l U c3 c4 c5 c6 c7 c8 c9 m1 c10 c11 c1 (hO k) b) fun v=>∃aa,v=(c1,c2,c3,c4,c5,c6,c7,c8,c9,m1,c10,c11,aa,l)/\aa.length=L:=by
   intro b
   unfold rG
   rw[ld]
   refine aQ (fun _=>abt k U R lc o k 0 _ (by omega) (by omega) Y) fun _=>?_
   refine aQ (fun _=>?_) fun _=>?_
   ·refine bX (i:=0) (by omega) fun _ _=>?_
    refine bX (i:=0) (by omega) fun _ _=>?_
    refine bX (by omega) fun _ _=>?_
    refine bX (by rw[List.length_set];omega) fun _ _=>?_
    unfold gu
    exact az ⟨_,rfl,by rw[List.length_set,List.length_set];exact Y⟩
   refine aQ (fun _=>?_) fun _=>?_
   ·refine cf (by omega) ?_
    rw[Int.toNat_natCast]
    exact Wp o q.2.2 W k 0 _ (Nat.zero_le _) (by have:=q.2.2;omega) (u7 o)
   refine aQ (fun _=>?_) fun _=>?_
   ·exact Vf R (by omega) o q.2.2 W k 0 _ (Nat.zero_le _) (by have:=q.2.2;omega) Y
   refine aQ (fun lk=>?_) fun _=>?_
   ·have lb:=q.2.1 (Or.inr (by simpa using lk))
    have ll:0<U.2.2.2.2.1.length:=List.length_pos_iff.2 lb
    refine bX (i:=0) ll fun lm ln=>?_
    refine bn (W lm (ln▸List.getElem_mem _) l o) ?_
    rintro v ⟨aa,rfl,lo⟩
    refine cf (by show aa.length<=_;omega) ?_
    rw[Int.toNat_natCast]
    exact Z6 (c1:=c1) (c2:=c2) (c3:=c3) (c4:=c4) (c5:=c5) (c6:=c6) (c7:=c7) (c8:=c8) (c9:=c9) (m1:=m1) (c10:=c10) (c11:=c11) rfl R o k 0 _ (Nat.zero_le _) (by omega) (u7 lo)
   refine aQ (fun lp=>?_) fun _=>?_
   ·have lb:=q.2.1 (Or.inl (by simpa using lp))
    obtain⟨y,ls,le⟩:=List.exists_cons_of_ne_nil lb
    refine cf (by omega) ?_
    rw[Int.toNat_natCast,le]
    refine Uf R (by omega) o (W y (by rw[le];exact List.mem_cons_self)) k _ ?_ (u7 o)
    have:=List.count_le_length (a:=false) (l:=l++List.drop l.length (List.replicate L false))
    rw[u7 o]at this
    omega
   ·unfold gu
    exact az ⟨_,rfl,Y⟩
  refine aQ (fun _=>?_) fun _=>?_
  ·refine cf (by omega) ?_
   unfold gu
   rw[Int.toNat_natCast]
   exact az ⟨_,rfl,u7 o⟩
  ·exact aQ (fun _=>la _) fun _=>aQ (fun _=>la _) fun _=>la _
theorem MZ(o:ef c1)(q:c2.length+1=L)(O:L<=40000){l:List Bool}(R:l.length=L):
  Has (oC 80000 (c1,()) c2 c3 c4 c5 c6 c7 c8 c9 m1 c10 c11 l) fun v=>∃aa,v=(c3,c4,c5,c6,c7,c8,c9,m1,c10,c11,aa,l)/\aa.length=L:=by
 unfold oC
 refine bn (XO o O q 1000 80000 0 (by have:=o.1;omega) (by have:=o.2.1;omega) (by omega) l R) ?_
 rintro v ⟨aa,rfl,U⟩
 exact az ⟨aa,rfl,U⟩
end ends
end Go.Ev
namespace Go.Ev
open Go
set_option linter.unusedVariables false
/-! What one letter over another one costs. -/
theorem Kg{t:List UInt8}{n:Int}(o:0<=n)(h:n<t.length):cA (eE t n):=by
 unfold eE
 rw[FK o h]
 exact⟨_,rfl⟩
theorem VS(x:Int):0<=iv x/\iv x<256:=by
 unfold iv IntKind.wrap
 simp[IntKind.bits,IntKind.signed]
 omega
theorem J3(x:Int):0<=cH x/\cH x<4294967296:=by
 unfold cH IntKind.wrap
 simp[IntKind.bits,IntKind.signed]
 omega
theorem O2(x:BitVec 32):0<=cH (BitVec.toNat (x&&&BitVec.ofInt 32 (255:Int)):Int)/\cH (BitVec.toNat (x&&&BitVec.ofInt 32 (255:Int)):Int)<256:=by
 have h:BitVec.toNat (x&&&BitVec.ofInt 32 (255:Int))<=255:=by
  rw[BitVec.toNat_and]
  exact Nat.and_le_right
 rw[mm (by omega)]
 omega
set_option maxRecDepth 100000 in
theorem aaz(k:Nat)(x:Int)(la:0<=x)(h:x<4294967296):∃v,oq k x=some v/\0<=v/\v<256:=by
 unfold oq
 rw[gz (by omega)]
 simp only[Option.bind_some]
 have e:(2:Int)^min ((24:Int)).toNat 32=16777216:=by decide
 obtain⟨o,q⟩:=Kg (t:=([0,1,1,2,1,2,2,3,1,2,2,3,2,3,3,4,1,2,2,3,2,3,3,4,2,3,3,4,3,4,4,5,1,2,2,3,2,3,3,4,2,3,3,4,3,4,4,5,2,3,3,4,3,4,4,5,3,4,4,5,4,5,5,6,1,2,2,3,2,3,3,4,2,3,3,4,3,4,4,5,2,3,3,4,3,4,4,5,3,4,4,5,4,5,5,6,2,3,3,4,3,4,4,5,3,4,4,5,4,5,5,6,3,4,4,5,4,5,5,6,4,5,5,6,5,6,6,7,1,2,2,3,2,3,3,4,2,3,3,4,3,4,4,5,2,3,3,4,3,4,4,5,3,4,4,5,4,5,5,6,2,3,3,4,3,4,4,5,3,4,4,5,4,5,5,6,3,4,4,5,4,5,5,6,4,5,5,6,5,6,6,7,2,3,3,4,3,4,4,5,3,4,4,5,4,5,5,6,3,4,4,5,4,5,5,6,4,5,5,6,5,6,6,7,3,4,4,5,4,5,5,6,4,5,5,6,5,6,6,7,4,5,5,6,5,6,6,7,5,6,6,7,6,7,7,8]:List UInt8)) (n:=Int.fdiv x (2^min ((24:Int)).toNat 32)) (by rw[e,Int.fdiv_eq_ediv_of_nonneg _ (by omega)];omega) (by rw[e,Int.fdiv_eq_ediv_of_nonneg _ (by omega)];show _<(256:Int);omega)
 rw[q]
 simp only[Option.bind_some]
 rw[gz (by omega)]
 simp only[Option.bind_some]
 have key:=fun y:BitVec 32=>Kg (t:=([0,1,1,2,1,2,2,3,1,2,2,3,2,3,3,4,1,2,2,3,2,3,3,4,2,3,3,4,3,4,4,5,1,2,2,3,2,3,3,4,2,3,3,4,3,4,4,5,2,3,3,4,3,4,4,5,3,4,4,5,4,5,5,6,1,2,2,3,2,3,3,4,2,3,3,4,3,4,4,5,2,3,3,4,3,4,4,5,3,4,4,5,4,5,5,6,2,3,3,4,3,4,4,5,3,4,4,5,4,5,5,6,3,4,4,5,4,5,5,6,4,5,5,6,5,6,6,7,1,2,2,3,2,3,3,4,2,3,3,4,3,4,4,5,2,3,3,4,3,4,4,5,3,4,4,5,4,5,5,6,2,3,3,4,3,4,4,5,3,4,4,5,4,5,5,6,3,4,4,5,4,5,5,6,4,5,5,6,5,6,6,7,2,3,3,4,3,4,4,5,3,4,4,5,4,5,5,6,3,4,4,5,4,5,5,6,4,5,5,6,5,6,6,7,3,4,4,5,4,5,5,6,4,5,5,6,5,6,6,7,4,5,5,6,5,6,6,7,5,6,6,7,6,7,7,8]:List UInt8)) (n:=cH (BitVec.toNat (y&&&BitVec.ofInt 32 (255:Int)):Int)) (O2 y).1 (O2 y).2
 obtain⟨O,R⟩:=key (BitVec.ofInt 32 (Int.fdiv x (2^min ((16:Int)).toNat 32)))
 rw[R]
 simp only[Option.bind_some]
 rw[gz (by omega)]
 simp only[Option.bind_some]
 obtain⟨U,W⟩:=key (BitVec.ofInt 32 (Int.fdiv x (2^min ((8:Int)).toNat 32)))
 rw[W]
 simp only[Option.bind_some]
 obtain⟨Y,Z⟩:=key (BitVec.ofInt 32 x)
 rw[Z]
 have:=VS ((iv ((iv (o+O))+U))+Y)
 exact⟨_,rfl,by rw[fO (by omega)];omega,by rw[fO (by omega)];omega⟩
/-! The least cost of two lists of letters; the first alignment. -/
/-! Square tables. -/
def tk(C:List (List Int)):Prop:=C.length=65/\∀r∈C,r.length=65
def Ob(C:List (List Int))(p o:Nat)(v:Int):List (List Int):=C.set p ((C.getD p []).set o v)
theorem tk.row{C:List (List Int)}(h:tk C){p:Nat}(q:p<65):(C.getD p []).length=65/\ar C (p:Int)=some (C.getD p []):=by
 have o:p<C.length:=by rw[h.1];exact q
 have e:C.getD p []=C[p]'o:=by simp[List.getD_eq_getElem?_getD,o]
 rw[e]
 exact⟨h.2 _ (List.getElem_mem o),ff o⟩
theorem tk.set{C:List (List Int)}(h:tk C){p q:Nat}(O:p<65)(v:Int):tk (Ob C p q v):=by
 unfold Ob
 refine⟨by rw[List.length_set];exact h.1,fun r o=>?_⟩
 rcases List.mem_or_eq_of_mem_set o with o|o
 ·exact h.2 r o
 ·rw[o,List.length_set];exact(h.row O).1
/-! The table filled. -/
abbrev FB:Type:=List Int×List Int×List (List Int)×List (List Int)×Unit
variable {aC:Int->FB->Option FB} {x y:List Int} {i k:Nat} {b:FB}
theorem RN{α:Type}{l:List α}{i:Nat}(h:i<l.length):l.drop i=l[i]'h::l.drop (i+1):=List.drop_eq_getElem_cons h
end Go.Ev
namespace Go.Ev
open Go
set_option linter.unusedVariables false
theorem Ks(k:Nat)(r:Int):cA (yt k r):=by
 unfold yt M0
 exact gr (fun _=>cw _) fun _=>gr (fun _=>cw _) fun _=>gr (fun _=>cw _) fun _=>cY (fun _=>cw _) fun _=>gr (fun _=>cw _) fun _=>gr (fun _=>cw _) fun _=>cw _
theorem wE:(1000000:Nat)<=bF:=by decide
theorem aa2(a:br)(h:a.2.1.length<=128):∀n i (m:List (Int×Int)),i<=a.2.1.length->a.2.1.length-i<n->(∀r:Int,(bM (aR (.int .i32)) m r).isSome=true->r∈a.2.1.map (·.1))->
  ∃aA,nK a n (i:Int) m=some (some aA,0)/\∀r:Int,(bM (aR (.int .i32)) aA r).isSome=true->r∈a.2.1.map (·.1):=by
 intro n
 induction n with
 |zero=>intro i m _ h;omega
 |succ n q=>
  intro i m R U o
  unfold nK HM
  by_cases h:i<a.2.1.length
  ·rw[if_pos (by simp only[decide_eq_true_eq];omega),ff h];simp only[Option.bind_some]
   rw[bG (by omega)]
   refine q (i+1) _ (by omega) (by omega) fun r O=>?_
   have:=nG wA (a.2.1[i]'h).1 r (i:Int) m
   by_cases e:r=(a.2.1[i]'h).1
   ·rw[e];exact List.mem_map.2 ⟨_,List.getElem_mem h,rfl⟩
   ·exact o r ((congrArg Option.isSome (this.2 e)).symm.trans O)
  ·rw[if_neg (by simp only[decide_eq_true_eq];omega)]
   exact⟨m,rfl,o⟩
theorem yZ{a:br}(h:cI a=true):a.1.length<=24/\1<=a.2.1.length/\a.2.1.length<=128:=by
 refine Classical.byContradiction fun o=>?_
 rw[KU o]at h
 cases h
end Go.Ev
namespace Go.Ev
open Go
set_option linter.unusedVariables false
theorem ab6(l:List Bool)(q:l.length<=70000)(v:Bool):cA (pl 80000 l v):=by
 unfold pl zy
 refine dv (rm (L:=po l v) (len:=l.length) (by omega) ?_ 80000 0 (Nat.zero_le _) (by omega)) fun _ _=>cw _
 intro n i O o
 unfold po DI
 exact gr (fun h=>dv (kR (by omega)) fun _ _=>cY (fun _=>cw _) fun _=>o (by omega)) fun _=>cw _
section lies
variable {c1:List UInt8} {c2:List cZ} {c3:List fy} {c4 c5:List Node} {c6:Int} {c7:Bool} {m1:fz} {c8:List (List UInt8)} {c9:List cZ}
theorem Uy{l1:List Int}(Z:l1.length<=39000)(O:ef c4)(R:ef c5){o:Nat}(la:o+c2.length<=l1.length):
  ∀n (i:Nat) (t:List Bool),i<=l1.length+1->l1.length+1-i<n->t.length=l1.length+1->Has (uX 80000 l1 c4 c1 c2 c3 c5 c6 c7 m1 c8 c9 (o:Int) n (i:Int) t) fun v=>∃b,v=(b,c1,c2,c3,c4,c5,c6,c7,m1,c8,c9):=by
 have U:ag ((l1.length:Int)+1)=((l1.length+1:Nat):Int):=bG (by omega)
 intro n
 induction n with
 |zero=>intro i t _ h;omega
 |succ n W=>
  intro i t lb lc q
  unfold uX LD
  rw[U,Int.toNat_natCast,List.length_replicate]
  refine bO (fun ld=>?_) fun _=>?_
  ·refine bX (by omega) fun _ _=>?_
   rw[bG (by omega)]
   exact W (i+1) _ (by omega) (by omega) (by rw[List.length_set];exact q)
  ·refine bn (MZ O rfl (by omega) q) ?_
   rintro v ⟨aa,rfl,le⟩
   refine bX (l:=aa) (by omega) fun _ _=>?_
   refine aQ (fun _=>az ⟨false,rfl⟩) fun _=>?_
   have Y:ag ((o:Int)+(c2.length:Int))=((o+c2.length:Nat):Int):=by rw[fO (by omega)];omega
   rw[Y]
   refine bX (l:=List.replicate t.length false) (by rw[List.length_replicate];omega) fun _ _=>?_
   refine bn (MZ (c1:=c5) (c2:=l1) (L:=l1.length+1) R rfl (by omega) (l:=List.set (List.replicate t.length false) ((o+c2.length:Nat):Int).toNat true) (by rw[List.length_set,List.length_replicate];exact q)) ?_
   rintro v ⟨ba,rfl,lf⟩
   refine bn (gC (ab6 ba (by omega) true)) fun b _=>?_
   exact az ⟨b,rfl⟩
theorem Qn{l1:List Int}(q:l1.length<=39000)(O:ef c4)(R:ef c5)(Z:c2.length<=8){o:Nat}(U:o+c2.length<=l1.length):
  ∀n (i:Nat),i<=c2.length->c2.length-i<n->Has (tz 80000 c2 l1 (o:Int) c1 c3 c4 c5 c6 c7 m1 c8 c9 n (i:Int)) fun v=>∃b,v=(b,c1,c2,c3,c4,c5,c6,c7,m1,c8,c9):=by
 have la:=pU
 have W:ag ((l1.length:Int)+1)=((l1.length+1:Nat):Int):=bG (by omega)
 intro n
 induction n with
 |zero=>intro i _ h;omega
 |succ n Y=>
  intro i lb lc
  unfold tz Le
  refine bO (fun ld=>?_) fun _=>?_
  ·refine bX (by omega) fun le _=>?_
   rw[show ag ((o:Int)+(i:Int))=((o+i:Nat):Int) by rw[fO (by omega)];omega]
   refine bX (by omega) fun lf _=>?_
   refine bn (Mb ..) fun b _=>?_
   refine aQ (fun _=>az ⟨false,rfl⟩) fun _=>?_
   rw[bG (by omega)]
   exact Y (i+1) (by omega) (by omega)
  ·rw[W]
   refine cf ⟨by omega,by omega,by omega⟩ ?_
   exact Uy q O R U 80000 0 _ (Nat.zero_le _) (by omega) (by simp)
theorem El{l1:List Int}(O:l1.length<=39000)(R:ef c4)(U:ef c5)(W:c2.length<=8){o:Nat}(Y:o<=100000):
  Has (nq 80000 l1 (o:Int) c1 c2 c3 c4 c5 c6 c7 m1 c8 c9) fun v=>∃b,v=(b,c1,c2,c3,c4,c5,c6,c7,m1,c8,c9)/\(b=true->o+c2.length<=l1.length):=by
 unfold nq
 rw[show ag ((o:Int)+(c2.length:Int))=((o+c2.length:Nat):Int) by rw[fO (by omega)];omega]
 refine bO (fun _=>az ⟨false,rfl,fun h=>nomatch h⟩) fun h=>?_
 have q:o+c2.length<=l1.length:=by omega
 exact jZ (Qn O R U W q 80000 0 (Nat.zero_le _) (by omega)) fun v ⟨b,e⟩=>⟨b,e,fun _=>q⟩
end lies
theorem aaR(s:List UInt8)(p i:Nat):bx (s.drop p) i=bx s (p+i):=by
 unfold bx
 simp[List.getD_eq_getElem?_getD]
theorem Y4(s:List UInt8)(p i:Nat):g (s.drop p) i=g s (p+i):=by
 unfold g
 simp only[aaR,List.length_drop,<-Nat.add_assoc,Nat.sub_sub]
theorem PO{s:List UInt8}{p:Nat}(h:p<s.length):Lib.decodeGo ⟨(s.drop p).toArray⟩=g s p:=by
 unfold Lib.decodeGo
 rw[if_neg (by simp[ByteArray.size];omega),xm,Y4]
 rfl
theorem Kk{w:List UInt8}(h:w≠[]):∃r n:Nat,utf8_DecodeRuneInString 80000 w=some ((r:Int),(n:Int))/\1<=n/\n<=w.length:=by
 have o:0<w.length:=List.length_pos_iff.2 h
 refine⟨(Lib.decodeGo ⟨w.toArray⟩).1,(Lib.decodeGo ⟨w.toArray⟩).2,rfl,?_⟩
 have e:Lib.decodeGo ⟨w.toArray⟩=g w 0:=by simpa using PO (s:=w) (p:=0) o
 rw[e]
 have:=ju w 0 o
 omega
theorem Xd(a:br):∀n (w:List UInt8) (o:List Int),o.length<=256->257-o.length<n->Has (sg 80000 a n w o) fun v=>v.1.length<=256:=by
 have la:=gN
 intro n
 induction n with
 |zero=>intro w o _ h;omega
 |succ n q=>
  intro w o O lb
  unfold sg Nd
  refine aQ (fun R=>?_) fun _=>az O
  have U:w≠[]:=by rintro rfl;simp at R
  obtain⟨r,m,e,lc,W⟩:=Kk U
  rw[e,Option.bind_some]
  unfold Pa
  refine aQ (fun _=>az (Nat.zero_le _)) fun _=>?_
  refine bn (gC (Eb _ _)) fun v _=>?_
  refine aQ (fun _=>az (Nat.zero_le _)) fun _=>?_
  refine aQ (fun _=>az (Nat.zero_le _)) fun Y=>?_
  have ld:o.length≠256:=by
   intro Z
   simp[Z]at Y
  refine cf (by simp only[List.length_cons,List.length_nil];omega) ?_
  rw[kh W,Option.bind_some]
  exact q _ _ (by simp only[List.length_append,List.length_cons,List.length_nil];omega) (by simp only[List.length_append,List.length_cons,List.length_nil];omega)
theorem abH(a:br)(w:List UInt8):Has (xE 80000 a w) fun v=>v.1.length<=256:=by
 unfold xE
 exact Xd a 80000 w [] (Nat.zero_le _) (by simp)
theorem Rt(a:br):∀n (w:List UInt8) (o:List Int),o.length<=256->257-o.length<n->Has (uT 80000 a n w o) fun v=>v.2.length<=256:=by
 have la:=gN
 intro n
 induction n with
 |zero=>intro w o _ h;omega
 |succ n q=>
  intro w o O lb
  unfold uT Nl
  refine aQ (fun R=>?_) fun _=>az O
  have U:w≠[]:=by rintro rfl;simp at R
  obtain⟨r,m,e,lc,W⟩:=Kk U
  rw[e,Option.bind_some]
  unfold K1
  refine aQ (fun _=>az (Nat.zero_le _)) fun _=>?_
  refine bn (gC (Eb _ _)) fun v _=>?_
  refine aQ (fun _=>az (Nat.zero_le _)) fun _=>?_
  refine aQ (fun _=>az (Nat.zero_le _)) fun Y=>?_
  have ld:o.length≠256:=by
   intro Z
   simp[Z]at Y
  refine cf (by simp only[List.length_cons,List.length_nil];omega) ?_
  rw[kh W,Option.bind_some]
  exact q _ _ (by simp only[List.length_append,List.length_cons,List.length_nil];omega) (by simp only[List.length_append,List.length_cons,List.length_nil];omega)
theorem XG(a:br)(w:List UInt8):Has (pm 80000 a w) fun v=>v.2.length<=256:=by
 unfold pm
 exact Rt a 80000 w [] (Nat.zero_le _) (by simp)
theorem W1(a:br)(p m:Int)(h:a.2.1.length<=128):∀n (i:Nat) (o:List Int),i<=a.2.1.length->a.2.1.length-i<n->o.length<=i->Has (sQ 80000 a p m n (i:Int) o) fun v=>v.1.length<=128:=by
 have O:=gN
 intro n
 induction n with
 |zero=>intro i o _ h;omega
 |succ n q=>
  intro i o R U W
  unfold sQ Kn
  refine bO (fun Y=>?_) fun _=>az (by show o.length<=128;omega)
  refine bX (by omega) fun Z _=>?_
  unfold Fl HS zr
  rw[Option.bind_some,bG (by omega)]
  refine aQ (fun _=>?_) fun _=>q (i+1) _ (by omega) (by omega) (by omega)
  refine cf (by simp only[List.length_cons,List.length_nil];omega) ?_
  exact q (i+1) _ (by omega) (by omega) (by simp only[List.length_append,List.length_cons,List.length_nil];omega)
theorem Rh(a:br)(p m:Int):Has (yD 80000 a p m) fun v=>v.1.length<=128:=by
 unfold yD
 obtain⟨e,q,O⟩:=pO (a.1,a.2.1,())
 rw[q,Option.bind_some]
 refine aQ (fun _=>az (Nat.zero_le _)) fun R=>?_
 have o:=(O (by simpa using R)).2.1
 refine bn (gC (xM ..)) fun v _=>?_
 refine aQ (fun _=>az (Nat.zero_le _)) fun _=>?_
 exact W1 a p m o 80000 0 [] (Nat.zero_le _) (by have:a.2.1.length<=128:=o;omega) (Nat.zero_le _)
theorem L0(p m:Int)(c1:List (List UInt8))(c2:List cZ)(c3:List UInt8)(c4:List cZ)(c5:List fy)(c6 c7:List Node)(c8:Int)(c9:Bool)(m1:fz):Has (oY 80000 p m c1 c2 c3 c4 c5 c6 c7 c8 c9 m1) fun _=>True:=by
 unfold oY
 refine bn (Rh _ _ _) fun v1 q=>?_
 have:∀n (i:Nat) (s:List (Int×Bool)),i<=v1.1.length->v1.1.length-i<n->Has (uq v1 m1 p m n (i:Int) s) fun _=>True:=by
  intro n
  induction n with
  |zero=>intro i s _ h;omega
  |succ n o=>
   intro i s O R
   unfold uq Pw
   refine bO (fun U=>?_) fun _=>az trivial
   refine bX (by omega) fun W _=>?_
   rw[bG (by omega)]
   exact o (i+1) _ (by omega) (by omega)
 exact this 80000 0 [] (Nat.zero_le _) (by omega)
abbrev M7:Type:=List (List UInt8)×List cZ×fz×List UInt8×List cZ×List fy×List Node×List Node×Int×Bool
theorem Sq{o:jl}(R:o.1.length<=1000){a4:List (List UInt8)}{a5:List cZ}{t10:List UInt8}{t11:List cZ}{t12:List fy}{t13 t14:List Node}{t15:Int}{t16:Bool}
  {aC:Int->List (List UInt8)->List cZ->fz->List UInt8->List cZ->List fy->List Node->List Node->Int->Bool->List jl->Option M7}{t9:Int}{t17:List jl}{P:M7->Prop}
  (q:∀m:fz,Has (aC (ag (t9+1)) a4 a5 m t10 t11 t12 t13 t14 t15 t16 t17) P):
  ∀n (i:Nat) (m:fz),i<=o.1.length->o.1.length-i<n->Has (ur 80000 o a4 a5 t10 t11 t12 t13 t14 t15 t16 aC t9 t17 n (i:Int) m) P:=by
 intro n
 induction n with
 |zero=>intro i s _ h;omega
 |succ n O=>
  intro i m U W
  unfold ur NC
  refine bO (fun Y=>?_) fun _=>q m
  refine bX (by omega) fun Z _=>?_
  refine bn (L0 ..) fun v2 _=>?_
  rw[bG (by omega)]
  exact O (i+1) _ (by omega) (by omega)
theorem WY{r:fl}(O:r.2.2.2.1.1.length<=1000)(R:r.2.2.2.2.1.1.length<=1000){a4:List (List UInt8)}{a5:List cZ}{t10:List UInt8}{t11:List cZ}{t12:List fy}{t13 t14:List Node}{t15:Int}{t16:Bool}:
  ∀n (i:Nat) (m:fz),i<=2->2-i<n->Has (sJ 80000 r n (i:Int) a4 a5 m t10 t11 t12 t13 t14 t15 t16 [(r.2.2.2.1.1,()),(r.2.2.2.2.1.1,())]) fun v=>∃m,v=(a4,a5,m,t10,t11,t12,t13,t14,t15,t16):=by
 intro n
 induction n with
 |zero=>intro i s _ h;omega
 |succ n U=>
  intro i m la lb
  unfold sJ Je
  refine bO (fun W=>?_) fun _=>az ⟨m,rfl⟩
  have lc:i<2:=by simp only[List.length_cons,List.length_nil]at W;omega
  refine bX (by simp only[List.length_cons,List.length_nil];omega) fun o Y=>?_
  have Z:o.1.length<=1000:=by
   have q:o∈[(r.2.2.2.1.1,()),(r.2.2.2.2.1.1,())]:=Y▸List.getElem_mem _
   simp only[List.mem_cons,List.not_mem_nil,or_false]at q
   rcases q with rfl|rfl
   ·exact O
   ·exact R
  refine Sq Z (fun aA=>?_) 80000 0 m (Nat.zero_le _) (by omega)
  rw[bG (by omega)]
  exact U (i+1) aA (by omega) (by omega)
theorem xv(a:br){r:fl}(R:r.2.1.length<=8)(o:r.2.2.2.1.1.length<=1000)(q:r.2.2.2.2.1.1.length<=1000):
  Has (jz 80000 a r) fun v=>∃m,v=(a.1,a.2.1,m,r.1,r.2.1,r.2.2.1,r.2.2.2.1.1,r.2.2.2.2.1.1,r.2.2.2.2.2.1,r.2.2.2.2.2.2.1):=by
 unfold jz
 have:∀n (i:Nat) (m:fz),i<=r.2.1.length->r.2.1.length-i<n->Has (vf 80000 r a n (i:Int) m) fun v=>∃m,v=(a.1,a.2.1,m,r.1,r.2.1,r.2.2.1,r.2.2.2.1.1,r.2.2.2.2.1.1,r.2.2.2.2.2.1,r.2.2.2.2.2.2.1):=by
  intro n
  induction n with
  |zero=>intro i s _ h;omega
  |succ n O=>
   intro i m U W
   unfold vf L6
   refine bO (fun Y=>?_) fun _=>WY o q 80000 0 m (Nat.zero_le _) (by omega)
   refine bX (by omega) fun Z _=>?_
   refine bn (L0 ..) fun v _=>?_
   rw[bG (by omega)]
   exact O (i+1) _ (by omega) (by omega)
 exact this 80000 0 [] (Nat.zero_le _) (by omega)
end Go.Ev
namespace Go.Ev
open Go
set_option linter.unusedVariables false
def gj(o:List Node)(n:Nat):List Int:=(o.take n).flatMap fun x=>x.2.2.2.2.1
def iN(o:List Node):Prop:=ef o/\o.length<=256/\(gj o o.length).Nodup
def Q7(o:List Node)(i:Nat):Prop:=∀(h:i<o.length),(∀k∈(o[i]'h).2.2.2.2.1,(i:Int)<k/\k<(o.length:Int))/\((o[i]'h).1=8\/(o[i]'h).1=9->(o[i]'h).2.2.2.2.1.length=1)
structure Seen(N:Nat)(V:List Int)(t:List Bool):Prop where
 len:t.length=N
 sk:V.Nodup
 flag:∀k∈V,0<=k/\t[k.toNat]? =some true
 count:V.length+t.count false=N
theorem Seen.add{N:Nat}{V:List Int}{t:List Bool}(h:Seen N V t){m:Nat}(q:m<t.length)(O:t[m]'q=false):Seen N (V++[(m:Int)]) (t.set m true):=by
 have U:((m:Nat):Int)∉V:=fun W=>by
  have:=(h.flag _ W).2
  rw[Int.toNat_natCast,List.getElem?_eq_getElem q,O]at this
  cases this
 refine⟨by rw[List.length_set];exact h.len,?_,?_,?_⟩
 ·rw[List.nodup_append]
  exact⟨h.sk,by simp,fun a Y b R e=>by simp at R;exact U (by rw[<-R,<-e];exact Y)⟩
 ·intro k o
  rcases List.mem_append.1 o with o|o
  ·have:=h.flag k o
   refine⟨this.1,?_⟩
   rw[List.getElem?_set]
   by_cases e:m=k.toNat
   ·rw[if_pos e,if_pos q]
   ·rw[if_neg e];exact this.2
  ·simp at o
   subst o
   exact⟨by omega,by rw[Int.toNat_natCast,List.getElem?_set_self q]⟩
 ·have:=vH q O
  have:=h.count
  simp only[List.length_append,List.length_cons,List.length_nil]
  omega
theorem W2{o:List Node}{i:Nat}(h:i<o.length):gj o (i+1)=gj o i++(o[i]'h).2.2.2.2.1:=by
 unfold gj
 rw[List.take_succ_eq_append_getElem h,List.flatMap_append]
 simp
theorem QC{p:jl}{i:Nat}(W:i<p.1.length){x:Node}(lb:p.1[i]'W=x) (lj:p.1.length<=256) {go:Int->List Bool->Option Bool} {Q:Bool->Prop} (Y:Q false)
  (lc:∀t,Seen p.1.length (gj p.1 (i+1)) t->(∀k∈x.2.2.2.2.1,(i:Int)<k/\k<(p.1.length:Int))->Has (go (ag ((i:Int)+1)) t) Q):
  ∀n (j:Nat) (t:List Bool),j<=x.2.2.2.2.1.length->t.count false<n->Seen p.1.length (gj p.1 i++x.2.2.2.2.1.take j) t->(∀k∈x.2.2.2.2.1.take j,(i:Int)<k/\k<(p.1.length:Int))->
   Has (o4 x (i:Int) p go n (j:Int) t) Q:=by
 intro n
 induction n with
 |zero=>intro j t _ h;omega
 |succ n ld=>
  intro j t lk ll q U
  have le:=q.count
  simp only[List.length_append,List.length_take]at le
  unfold o4 Cd
  refine bO (fun lm=>?_) fun ln=>?_
  ·have O:j<x.2.2.2.2.1.length:=by omega
   refine bX O fun y lf=>?_
   unfold Bt tW
   refine aQ (fun _=>aQ (fun _=>az Y) fun lg=>nomatch lg) fun lh=>?_
   simp only[Bool.or_eq_false_iff,decide_eq_false_iff_not]at lh
   obtain⟨m,rfl⟩:∃m:Nat,y=(m:Int):=⟨y.toNat,by omega⟩
   have R:m<t.length:=by have:=q.len;omega
   refine bX R fun f Z=>?_
   refine aQ (fun _=>az Y) fun li=>?_
   refine bX R fun _ _=>?_
   subst li
   rw[bG (by omega),Int.toNat_natCast]
   have la:x.2.2.2.2.1.take (j+1)=x.2.2.2.2.1.take j++[(m:Int)]:=by rw[List.take_succ_eq_append_getElem O,lf]
   have lo:=vH R Z
   refine ld (j+1) (t.set m true) O (by omega) (by rw[la,<-List.append_assoc];exact q.add R Z) ?_
   intro k o
   rw[la]at o
   rcases List.mem_append.1 o with o|o
   ·exact U k o
   ·simp at o
    omega
  ·have O:j=x.2.2.2.2.1.length:=by omega
   subst O
   rw[List.take_length]at q U
   refine lc t ?_ U
   rw[W2 W,lb]
   exact q
theorem Sd(p:jl):Has (jW 80000 p) fun b=>b=true->iN p.1:=by
 unfold jW
 by_cases W:(decide ((p.1.length:Int)<1)||decide ((256:Int)<(p.1.length:Int)))=true
 ·rw[W]
  exact⟨false,rfl,fun o=>by cases o⟩
 ·rw[Bool.eq_false_iff.2 W]
  simp only[Bool.or_eq_true,decide_eq_true_eq]at W
  have lf:1<=p.1.length:=by omega
  have Z:p.1.length<=256:=by omega
  have ls:=pU
  unfold wm
  rw[if_neg (by simp)]
  refine cf ⟨by omega,by omega,by omega⟩ ?_
  rw[Int.toNat_natCast]
  have lg:∀n (i:Nat) (t:List Bool),i<=p.1.length->p.1.length-i<n->Seen p.1.length (gj p.1 i) t->(∀j,j<i->Q7 p.1 j)->Has (gL 80000 p n (i:Int) t) fun b=>b=true->iN p.1:=by
   intro n
   induction n with
   |zero=>intro i t _ h;omega
   |succ n lh=>
    intro i t lt lu q la
    have lv:=q.count
    unfold gL BN
    refine bO (fun lw=>?_) fun lx=>?_
    ·have O:i<p.1.length:=by omega
     refine bX O fun x lb=>?_
     have lc:(x.1=8\/x.1=9->x.2.2.2.2.1.length=1)->∀b,Has (pE 80000 x (i:Int) p (gL 80000 p n) t b) fun b=>b=true->iN p.1:=fun U b=>by
      unfold pE
      refine aQ (fun _=>az fun o=>nomatch o) fun _=>?_
      have ly:t.count false<=t.length:=List.count_le_length
      have li:=q.len
      refine QC O lb Z (fun o=>nomatch o) (fun lj lk ll=>?_) 80000 0 t (Nat.zero_le _) (by omega) (by simpa using q) (by simp)
      rw[bG (by omega)]
      refine lh (i+1) lj O (by omega) lk fun j lm=>?_
      by_cases e:j=i
      ·subst e
       intro lz
       rw[lb]
       exact⟨ll,U⟩
      ·exact la j (by omega)
     have Y:(x.1=8\/x.1=9->x.2.2.2.2.1.length=1)->Has (nL 80000 x (i:Int) p (gL 80000 p n) t) fun b=>b=true->iN p.1:=fun U=>by
      unfold nL Ai
      exact aQ (fun _=>lc U _) fun _=>lc U _
     have R:∀c:Int,c≠8->c≠9->Has (kG 80000 x (i:Int) p (gL 80000 p n) t (x.1==c)) fun b=>b=true->iN p.1:=fun c ln lo=>by
      unfold kG
      refine aQ (fun e=>aQ (fun _=>az fun o=>nomatch o) fun _=>Y fun o=>?_) fun _=>az fun o=>nomatch o
      have:x.1=c:=by simpa using e
      omega
     have ld:∀c:Int,Has (oP 80000 x (i:Int) p (gL 80000 p n) t (x.1==c)) fun b=>b=true->iN p.1:=fun c=>by
      unfold oP
      refine aQ (fun _=>aQ (fun _=>az fun o=>nomatch o) fun lp=>Y fun _=>?_) fun _=>?_
      ·have:¬((x.2.2.2.2.1.length:Int)≠1):=by simpa using lp
       omega
      ·exact aQ (fun _=>R 1 (by decide) (by decide)) fun _=>aQ (fun _=>R 2 (by decide) (by decide)) fun _=>aQ (fun _=>R 3 (by decide) (by decide)) fun _=>aQ (fun _=>R 4 (by decide) (by decide)) fun _=>R 5 (by decide) (by decide)
     have le:∀c:Int,c≠8->c≠9->Has (o5 80000 x (i:Int) p (gL 80000 p n) t (x.1==c)) fun b=>b=true->iN p.1:=fun c ln lo=>by
      unfold o5
      refine aQ (fun e=>Y fun o=>?_) fun _=>aQ (fun _=>ld 8) fun _=>ld 9
      have:x.1=c:=by simpa using e
      omega
     exact aQ (fun _=>le 6 (by decide) (by decide)) fun _=>le 7 (by decide) (by decide)
    ·have O:i=p.1.length:=by omega
     subst O
     have li:=q.len
     rw[show(1:Int)=((1:Nat):Int)from rfl,kh (by omega),Option.bind_some]
     refine bn (gC (L3 _ (by rw[List.length_drop];omega) _)) fun b _=>az fun _=>?_
     have lq:∀(j:Nat) (h:j<p.1.length),(p.1[j]'h).2.2.2.2.1.length<=1000:=by
      intro j h
      have lA:(p.1[j]'h).2.2.2.2.1.length<=(gj p.1 p.1.length).length:=by
       unfold gj
       rw[List.take_length]
       have hm:p.1[j]'h∈p.1:=List.getElem_mem _
       generalize p.1[j]'h=y at hm
       generalize p.1=l at hm
       induction l with
       |nil=>cases hm
       |cons z l lr=>
        rw[List.flatMap_cons,List.length_append]
        rcases List.mem_cons.1 hm with rfl|hm
        ·omega
        ·have:=lr hm
         omega
      omega
     refine⟨⟨lf,by omega,fun j h=>?_⟩,Z,q.sk⟩
     have:=la j h h
     refine⟨this.1,fun o=>?_,lq j h⟩
     have:=this.2 o
     intro e
     rw[e]at this
     cases this
  refine lg 80000 0 _ (Nat.zero_le _) (by omega) ?_ (fun j lm=>by omega)
  refine⟨by simp,by simp[gj],by simp[gj],?_⟩
  simp[gj,List.count_replicate]
theorem NW(a:br)(p:jl):Has (oK 80000 a p) fun e=>e=0->iN p.1/\jW 80000 (p.1,())=some true:=by
 unfold oK
 obtain⟨e,U,_⟩:=pO (a.1,a.2.1,())
 rw[U,Option.bind_some]
 refine aQ (fun h=>az fun o=>?_) fun _=>?_
 ·subst o
  simp at h
 obtain⟨b,W,Y⟩:=Sd (p.1,())
 rw[W,Option.bind_some]
 refine aQ (fun _=>az fun o=>nomatch o) fun h=>?_
 have O:b=true:=by simpa using h
 have R:iN p.1:=Y O
 have Z:=R.2.1
 have:cA (nZ 80000 p a 80000 0):=by
  refine rm (L:=nZ 80000 p a) (len:=p.1.length) (by omega) ?_ 80000 0 (Nat.zero_le _) (by omega)
  intro n i la q
  unfold nZ Hr qH
  exact gr (fun lb=>dv (kR (by omega)) fun x _=>cY (fun _=>dv (sw _ _) fun _ _=>cY (fun _=>cw _) fun _=>q (by omega))
   fun _=>cY (fun _=>dv (Gk _ _ _) fun _ _=>cY (fun _=>cw _) fun _=>q (by omega)) fun _=>q (by omega)) fun _=>cw _
 exact jZ (gC this) fun _ _ _=>⟨R,by rw[O]⟩
theorem Ux(a:br)(s:fy)(n:Int):Has (p8 80000 a s n) fun b=>b=true->s.1=0->0<=s.2.1/\s.2.1<n:=by
 unfold p8 AB oh
 refine aQ (fun _=>?_) fun _=>?_
 ·rw[if_pos rfl]
  exact az fun o=>nomatch o
 refine aQ (fun q=>?_) fun q=>?_
 ·unfold Jx sO oh
  refine aQ (fun _=>az fun o=>nomatch o) fun O=>?_
  simp only[Bool.or_eq_false_iff,decide_eq_false_iff_not]at O
  refine bn (gC (tC ..)) fun b _=>az fun _ _=>?_
  omega
 ·unfold sO oh
  rw[if_neg (by simp)]
  refine bn (gC (tC ..)) fun b _=>az fun _ o=>?_
  rw[o]at q
  cases q
structure qC(a:br)(r:fl):Prop where
 E4:cI a=true
 target:r.2.1.length<=8
 pW:r.2.2.1.length<=8
 from_:∀s∈r.2.2.1,s.1=0->0<=s.2.1/\s.2.1<(r.2.1.length:Int)
 left:iN r.2.2.2.1.1
 right:iN r.2.2.2.2.1.1
 Ul:jW 80000 (r.2.2.2.1.1,())=some true
 Ta:jW 80000 (r.2.2.2.2.1.1,())=some true
theorem HX(a:br)(r:fl):Has (mu 80000 a r) fun e=>e=0->qC a r:=by
 unfold mu
 rw[show eK 80000 ((a.1,a.2.1,()):br)=some (if cI a then 0 else 7)from kb a,Option.bind_some]
 refine aQ (fun h=>az fun o=>?_) fun h=>?_
 ·rw[o]at h
  cases h
 have lc:cI a=true:=by
  cases aJ:cI a with
  |true=>rfl
  |false=>rw[aJ]at h;cases h
 refine bn (gC (MW _)) fun v _=>?_
 unfold Hd Ft Ep Cp FQ
 refine aQ (fun _=>az fun o=>nomatch o) fun ld=>?_
 simp only[Bool.or_eq_false_iff,decide_eq_false_iff_not]at ld
 have le:r.2.1.length<=8:=by omega
 have lf:r.2.2.1.length<=8:=by omega
 have l2:∀n (i:Nat),i<=r.2.2.1.length->r.2.2.1.length-i<n->(∀s∈r.2.2.1.take i,s.1=0->0<=s.2.1/\s.2.1<(r.2.1.length:Int))->Has (nJ 80000 r a n (i:Int)) fun e=>e=0->qC a r:=by
  intro n
  induction n with
  |zero=>intro i _ h;omega
  |succ n O=>
   intro i lg lh R
   unfold nJ G5
   refine bO (fun li=>?_) fun ll=>?_
   ·have U:i<r.2.2.1.length:=by omega
    refine bX U fun x W=>?_
    refine bn (Ux _ _ _) fun b lj=>?_
    refine aQ (fun _=>az fun o=>nomatch o) fun lk=>?_
    rw[bG (by omega)]
    refine O (i+1) U (by omega) fun s q=>?_
    rw[List.take_succ_eq_append_getElem U,W]at q
    rcases List.mem_append.1 q with q|q
    ·exact R s q
    ·simp only[List.mem_cons,List.not_mem_nil,or_false]at q
     subst q
     exact lj (by simpa using lk)
   ·have:i=r.2.2.1.length:=by omega
    subst this
    rw[List.take_length]at R
    refine bn (NW a (r.2.2.2.1.1,())) fun v5 Y=>?_
    unfold rB
    refine aQ (fun _=>?_) fun Z=>?_
    ·rw[if_pos rfl]
     exact az fun o=>nomatch o
    refine bn (NW a (r.2.2.2.2.1.1,())) fun lm la=>?_
    refine aQ (fun _=>az fun o=>nomatch o) fun lb=>az fun _=>?_
    exact⟨lc,le,lf,R,(Y (by simpa using Z)).1,(la (by simpa using lb)).1,(Y (by simpa using Z)).2,(la (by simpa using lb)).2⟩
 have l1:∀n (i:Nat),i<=r.2.1.length->r.2.1.length-i<n->Has (pk 80000 r a n (i:Int)) fun e=>e=0->qC a r:=by
  intro n
  induction n with
  |zero=>intro i _ h;omega
  |succ n O=>
   intro i lg lh
   unfold pk Bl
   refine bO (fun li=>?_) fun _=>l2 80000 0 (Nat.zero_le _) (by omega) (by simp)
   refine bX (by omega) fun x W=>?_
   refine bn (gC (tC ..)) fun b _=>?_
   refine aQ (fun _=>az fun o=>nomatch o) fun _=>?_
   rw[bG (by omega)]
   exact O (i+1) (by omega) (by omega)
 exact l1 80000 0 (Nat.zero_le _) (by omega)
/-! A word's places, and what is wrong with laws and a word. -/
theorem WN{v2:List Int×Int}{O:fl}(Y:v2.1.length<=256){t2:List (List UInt8)}{t3:List cZ}{t4:List UInt8}{t5:List cZ}{t6:List fy}{t7 t8:List Node}{t9:Int}{t10:Bool}(R:ef t7)(U:ef t8)(W:t5.length<=8)(m:fz):
  ∀n (i:Nat) (o:List (Int×Int×Unit)),i<=v2.1.length+1->v2.1.length+1-i<n->o.length<=i->Has (ta 80000 v2 O n (i:Int) t2 t3 t4 t5 t6 t7 t8 t9 t10 m o) fun _=>True:=by
 have Z:=gN
 intro n
 induction n with
 |zero=>intro i o _ h;omega
 |succ n q=>
  intro i o la lb lc
  unfold ta OY
  rw[bG (by omega)]
  refine bO (fun ld=>?_) fun _=>az trivial
  refine bn (El (by omega) R U W (by omega)) ?_
  rintro v ⟨b,rfl,_⟩
  unfold wO
  rw[bG (by omega)]
  refine aQ (fun _=>?_) fun _=>q (i+1) _ (by omega) (by omega) (by omega)
  refine cf (by simp only[List.length_cons,List.length_nil];omega) ?_
  exact q (i+1) _ (by omega) (by omega) (by simp only[List.length_append,List.length_cons,List.length_nil];omega)
theorem Sf(a:br)(r:fl)(w:List UInt8):Has (yj 80000 a r w) fun _=>True:=by
 unfold yj
 refine bn (HX a r) fun v1 q=>?_
 refine aQ (fun _=>az trivial) fun O=>?_
 have o:=q (by simpa using O)
 refine bn (abH a w) fun v2 R=>?_
 refine aQ (fun _=>az trivial) fun _=>?_
 refine bn (xv a o.target o.left.1.2.1 o.right.1.2.1) ?_
 rintro v ⟨m,rfl⟩
 exact WN R o.left.1 o.right.1 o.target m 80000 0 [] (Nat.zero_le _) (by omega) (Nat.zero_le _)
theorem Qq(a:br)(o:cI a=true)(w:List UInt8):Has (w5 80000 a w) fun _=>True:=by
 unfold w5 GO
 have q:=yZ o
 refine bn (Q:=fun _=>True) ?_ fun v _=>bn (Sf a v w) fun _ _=>az trivial
 exact bX (i:=0) (by show 0<a.2.1.length;omega) fun x _=>az trivial
end Go.Ev
namespace Go.Ev
open Go
set_option linter.unusedVariables false
theorem OT(k:Nat)(x y:cZ):cA (rn k x y):=by
 unfold rn
 obtain⟨v,e,_⟩:=aaz k _ (J3 (BitVec.toNat (BitVec.ofInt 32 (cH (BitVec.toNat (BitVec.ofInt 32 x.2.1^^^BitVec.ofInt 32 y.2.1)))|||BitVec.ofInt 32 (cH (BitVec.toNat (BitVec.ofInt 32 x.2.2.1^^^BitVec.ofInt 32 y.2.2.1)))):Int)).1 (J3 _).2
 rw[e]
 exact⟨v,rfl⟩
theorem ZY{o:List cZ}(c:cZ×Unit)(O:o.length<=128):∀n (i:Nat) (m1 m2 m3:Int),i<=o.length->o.length-i<n->Has (sx 80000 o c n (i:Int) m1 m2 m3) fun _=>True:=by
 intro n
 induction n with
 |zero=>intro i _ _ _ _ h;omega
 |succ n q=>
  intro i m1 m2 m3 R U
  unfold sx LL
  refine bO (fun W=>?_) fun _=>az trivial
  refine bX (by omega) fun Y _=>?_
  unfold ED zD
  rw[bG (by omega)]
  refine bn (Q:=fun _=>True) (bn (gC (OT ..)) fun _ _=>bn (gC (OT ..)) fun _ _=>az trivial) fun v _=>?_
  exact bO (fun _=>q (i+1) _ _ _ (by omega) (by omega)) fun _=>q (i+1) _ _ _ (by omega) (by omega)
theorem S2(a:br)(q:cI a=true)(r p m:Int):Has (wX 80000 a r p m) fun _=>True:=by
 have o:=yZ q
 unfold wX
 refine bn (gC (sw ..)) fun v1 _=>?_
 refine aQ (fun _=>az trivial) fun _=>?_
 refine bn (gC (xM ..)) fun v2 _=>?_
 refine aQ (fun _=>az trivial) fun _=>?_
 refine bn (Q:=fun _=>True) ?_ fun _ _=>az trivial
 unfold G6
 refine bO (fun h=>by omega) fun _=>?_
 exact bX (i:=0) (by omega) fun x _=>ZY _ o.2.2 80000 1 _ _ _ o.2.1 (by omega)
theorem WO{c3:List fy}{found:List Int}{c8:List (List UInt8)}{c9:List cZ}(R:cI (c8,c9,())=true)(la:c3.length<=8)(U:∀s∈c3,s.1=0->0<=s.2.1/\s.2.1<(found.length:Int)):
  ∀n (i:Nat) (o:List Int),i<=c3.length->c3.length-i<n->o.length<=i->Has (up 80000 c3 found c8 c9 n (i:Int) o) fun aa=>aa.length<=8:=by
 have lb:=gN
 intro n
 induction n with
 |zero=>intro i _ _ h;omega
 |succ n q=>
  intro i o lc ld le
  unfold up IU
  refine bO (fun lf=>?_) fun _=>az (by omega)
  refine bX (by omega) fun W Y=>?_
  unfold vo
  rw[bG (by omega)]
  refine aQ (fun _=>?_) fun Z=>?_
  ·refine cf (by simp only[List.length_cons,List.length_nil];omega) ?_
   exact q (i+1) _ (by omega) (by omega) (by simp only[List.length_append,List.length_cons,List.length_nil];omega)
  ·have O:=U W (Y▸List.getElem_mem _) (by simpa using Z)
   refine Vh O.1 O.2 fun lg _=>?_
   unfold DB
   refine bn (Q:=fun _=>True) (bn (S2 _ R ..) fun _ _=>az trivial) fun v _=>?_
   refine cf (by simp only[List.length_cons,List.length_nil];omega) ?_
   exact q (i+1) _ (by omega) (by omega) (by simp only[List.length_append,List.length_cons,List.length_nil];omega)
theorem Kt{c3:List fy}{found:List Int}{c8:List (List UInt8)}{c9:List cZ}(o:cI (c8,c9,())=true)(q:c3.length<=8)(O:∀s∈c3,s.1=0->0<=s.2.1/\s.2.1<(found.length:Int))
  (c1:List UInt8)(c2:List cZ)(c4 c5:List Node)(c6:Int)(c7:Bool)(m1:fz):Has (pg 80000 found c1 c2 c3 c4 c5 c6 c7 m1 c8 c9) fun aa=>aa.length<=8:=by
 unfold pg
 exact WO o q O 80000 0 [] (Nat.zero_le _) (by omega) (Nat.zero_le _)
theorem xW(x:Int):(Utf8.encode x).data.toList.length<=4:=by
 rw[Array.length_toList]
 exact encode_size_le x
theorem sS(xs:List Int):(cz xs).length<=4*xs.length:=by
 have:=foldl_size_le xs ByteArray.empty
 unfold cz runesBytes
 rw[Array.length_toList]
 rw[show ByteArray.empty.size=0 from rfl,Nat.zero_add]at this
 exact this
theorem O9(s:List UInt8):(eJ s).length<=s.length:=by
 have:∀n i,(kT s n i).length<=n:=by
  intro n
  induction n with
  |zero=>intro i;exact Nat.le_refl _
  |succ n o=>
   intro i
   unfold kT
   split
   ·have:=o (i+(Utf8.decode (bytesOf s) i).2)
    simp only[List.length_cons]
    omega
   ·exact Nat.zero_le _
 exact this _ _
theorem YR{s:List UInt8}(O:s.length<=70000):∀n p (c:Nat),p<=s.length->s.length-p<n->c<=p->Has (pc s n (c:Int) p) fun v=>∃m:Nat,v=(m:Int)/\m<=70000:=by
 intro n
 induction n with
 |zero=>intro p c _ h;omega
 |succ n o=>
  intro p c R U W
  unfold pc Ey
  refine bO (fun q=>?_) fun _=>az ⟨c,rfl,by omega⟩
  have:=ju s p q
  rw[bG (by omega),iR]
  exact o _ (c+1) (by omega) (by omega) (by omega)
theorem zI{s:List UInt8}(o:s.length<=70000):Has (ma 80000 s) fun v=>∃m:Nat,v=(m:Int)/\m<=70000:=by
 unfold ma tr
 exact YR o _ 0 0 (Nat.zero_le _) (by omega) (Nat.le_refl _)
abbrev hq:Type:=List eS
def Fr(n i:Nat)(S:hq):Prop:=S.length=n+2/\∃j w,i<=j/\j<=n+1/\w.length<=40*j/\S[j]? =some (some (some [(w,true)]))/\∀o,i<=o->o<=n+1->o≠j->S[o]? =some (some (some []))
theorem pD{S:hq}{i:Nat}{y:Option bS}(h:S[i]? =some (some y)):gg S (i:Int)=some y:=by
 unfold gg
 rw[Int.toNat_natCast,h]
theorem D7{S:hq}{i:Nat}{y:List bD}(h:S[i]? =some (some (some y))):iq S (i:Int)=some y:=by
 unfold iq
 rw[Int.toNat_natCast,h]
theorem nS{S:hq}{i j:Nat}{x}(h:i≠j):(S.set i x)[j]? =S[j]? :=by rw[List.getElem?_set,if_neg h]
theorem Fr.take{n i:Nat}{S:hq}(h:Fr n i S)(lb:i<=n+1):∃l,S[i]? =some (some (some l))/\((l=[]/\Fr n (i+1) (S.set i none))\/
  ∃w:List UInt8,l=[(w,true)]/\w.length<=40*i/\∀o,i<o->o<=n+1->gg (S.set i none) (o:Int)=some (some [])/\iq (S.set i none) (o:Int)=some []/\(S.set i none).length=n+2/\
   ∀q:List UInt8,q.length<=40*o->Fr n (i+1) ((S.set i none).set o (some (some [(q,true)])))):=by
 obtain⟨R,j,w,lf,lc,W,Y,O⟩:=h
 by_cases e:j=i
 ·subst e
  refine⟨[(w,true)],Y,.inr ⟨w,rfl,W,fun o ld Z=>?_⟩⟩
  have la:(S.set j none)[o]? =some (some (some [])):=by rw[nS (by omega)];exact O o (by omega) Z (by omega)
  refine⟨pD la,D7 la,by rw[List.length_set];exact R,fun q le=>⟨by rw[List.length_set,List.length_set];exact R,o,q,ld,Z,le,?_,?_⟩⟩
  ·rw[List.getElem?_set_self (by rw[List.length_set];omega)]
  ·intro U a b c
   rw[nS (Ne.symm c),nS (by omega)]
   exact O U (by omega) b (by omega)
 ·refine⟨[],O i (Nat.le_refl _) lb (Ne.symm e),.inl ⟨rfl,by rw[List.length_set];exact R,j,w,by omega,lc,W,by rw[nS (Ne.symm e)];exact Y,?_⟩⟩
  intro U a b c
  rw[nS (by omega)]
  exact O U (by omega) b c
theorem Fr.first{n:Nat}{S:hq}(o:S.length=n+2)(h:∀j,j<n+2->S[j]? =some (some (some []))):Fr n 0 (S.set 0 (some (some [(([]:List UInt8),true)]))):=by
 refine⟨by rw[List.length_set];exact o,0,[],Nat.le_refl _,by omega,Nat.zero_le _,by rw[List.getElem?_set_self (by omega)],fun q a b c=>?_⟩
 rw[nS (Ne.symm c)]
 exact h q (by omega)
abbrev ra:Type:=Int×List UInt8×List cZ×List fy×List Node×List Node×Int×Bool×fz×List (List UInt8)×List cZ×List (List UInt8)
def ee(v:ra):Prop:=(v.1=0->v.2.2.2.2.2.2.2.2.2.2.2.length=1)/\v.2.2.2.2.2.2.2.2.2.2.2.length<=1/\∀w∈v.2.2.2.2.2.2.2.2.2.2.2,w.length<=10400
theorem ee.err{e:Int}(o:e≠0){a b c d f g h i j k}:ee (e,a,b,c,d,f,g,h,i,j,k,[]):=⟨fun q=>absurd q o,Nat.zero_le _,fun w O=>by cases O⟩
end Go.Ev
namespace Go.Ev
open Go
set_option linter.unusedVariables false
theorem qW{α β:Type}{a:Option β}{f:α->Option β}:np [] a f=a:=rfl
theorem yB{α β:Type}{p:α}{a:Option β}{f:α->Option β}:np [p] a f=f p:=rfl
theorem CL{α:Type}{s:List α}{a b:Nat}(h:a<=b)(o:b<=s.length):∃r,dK s (a:Int) (b:Int)=some r/\r.length=b-a:=by
 refine⟨_,if_pos ⟨by omega,by omega,by omega⟩,?_⟩
 rw[Int.toNat_natCast,Int.toNat_natCast,List.length_drop,List.length_take]
 omega
theorem xR{a b:Nat}(h:a+b<1000000):ag ((a:Int)+(b:Int))=((a+b:Nat):Int):=by rw[fO (by omega)];omega
def Left(N i:Nat)(S:hq)(l:List bD):Prop:=
 (l=[]/\Fr N (i+1) S)\/∃w:List UInt8,l=[(w,true)]/\w.length<=40*i/\∀o,i<o->o<=N+1->gg S (o:Int)=some (some [])/\iq S (o:Int)=some []/\S.length=N+2/\
  ∀q:List UInt8,q.length<=40*o->Fr N (i+1) (S.set o (some (some [(q,true)])))
section all
variable {l1:List Int} {N:Nat} {c1:List UInt8} {c2:List cZ} {c3:List fy} {c4 c5:List Node} {c6:Int} {c7:Bool} {m1:fz} {c8:List (List UInt8)} {c9:List cZ} {jg:List Bool}
abbrev G4:Type:=List UInt8×List cZ×List fy×List Node×List Node×Int×Bool×fz×List (List UInt8)×List cZ×List Bool
abbrev abv:Type:=Int->hq->List UInt8->List cZ->List fy->List Node->List Node->Int->Bool->fz->List (List UInt8)->List cZ->List Bool->Option ra
theorem QQ(lc:l1.length=N)(ld:N<=256)(U:ef c4)(W:ef c5)(Y:c2.length<=8):∀n (i:Nat) (t:List Bool),N+1-i<n->i<=1000->t.length=N+1->(∀j:Nat,t[j]? =some true->j+c2.length<=N)->
  Has (p7 80000 l1 n (i:Int) c1 c2 c3 c4 c5 c6 c7 m1 c8 c9 t) fun v=>∃t,v=(c1,c2,c3,c4,c5,c6,c7,m1,c8,c9,t)/\t.length=N+1/\∀j:Nat,t[j]? =some true->j+c2.length<=N:=by
 intro n
 induction n with
 |zero=>intro i t h;omega
 |succ n O=>
  intro i t le lf o q
  unfold p7 O4
  refine bO (fun lg=>?_) fun _=>az ⟨t,rfl,o,q⟩
  refine bn (El (by omega) U W Y (by omega)) ?_
  rintro v ⟨b,rfl,Z⟩
  refine aQ (fun la=>?_) fun _=>?_
  ·refine bX (by omega) fun _ _=>?_
   have lh:=Z la
   obtain⟨m,lb,li⟩:∃m:Nat,ag ((i:Int)+(mh 0 (ag ((c2.length:Int)-1))))=(m:Int)/\i<=m/\m<=i+8:=by
    refine⟨i+(c2.length-1),?_,by omega,by omega⟩
    rw[fO (x:=(c2.length:Int)-1) (by omega)]
    unfold mh
    split
    ·rw[fO (by omega)];omega
    ·rw[fO (by omega)];omega
   unfold uZ
   show Has (p7 80000 l1 n (ag ((ag ((i:Int)+(mh 0 (ag ((c2.length:Int)-1)))))+1)) c1 c2 c3 c4 c5 c6 c7 m1 c8 c9 (t.set ((i:Int)).toNat true)) _
   rw[lb,bG (by omega),Int.toNat_natCast]
   refine O (m+1) _ (by omega) (by omega) (by rw[List.length_set];exact o) fun j R=>?_
   by_cases e:i=j
   ·subst e;omega
   ·rw[List.getElem?_set,if_neg e]at R
    exact q j R
  ·unfold uZ
   rw[bG (by omega)]
   exact O (i+1) t (by omega) (by omega) o q
theorem Qt(lE:l1.length=N)(lF:N<=256){v1:G4}(lG:v1.2.1.length<=8)(lm:cI (c8,c9,())=true)(O:c3.length<=8)(ln:∀s∈c3,s.1=0->0<=s.2.1/\s.2.1<(v1.2.1.length:Int))
  (lH:jg.length=N+1)(lo:∀j:Nat,jg[j]? =some true->j+v1.2.1.length<=N){aC:abv}{i:Nat}(lI:i<=N)
  (lg:∀bg,Fr N (i+1) bg->Has (aC (ag ((i:Int)+1)) bg c1 c2 c3 c4 c5 c6 c7 m1 c8 c9 jg) ee):
  ∀n S l lh,Left N i S l->Has (gx 80000 aC (i:Int) c1 c2 c3 c4 c5 c6 c7 m1 c8 c9 jg l1 v1 false (n+2) S l lh) ee:=by
 have lJ:=gN
 intro n S l lh lp
 have fin:∀bg p,Fr N (i+1) bg->Has (gx 80000 aC (i:Int) c1 c2 c3 c4 c5 c6 c7 m1 c8 c9 jg l1 v1 false (n+1) bg [] p) ee:=fun bg p h=>by
  unfold gx tK
  rw[qW]
  exact lg bg h
 unfold gx tK
 rcases lp with ⟨rfl,la⟩|⟨w,rfl,lK,la⟩
 ·rw[qW]
  exact lg S la
 rw[yB]
 refine bn (zI (s:=w) (by omega)) ?_
 rintro v2 ⟨m,rfl,lb⟩
 refine bO (fun _=>az (ee.err (by decide))) fun _=>?_
 refine bn (Q:=fun b=>jg[i]? =some b) ?_ fun v3 lq=>?_
 ·unfold Dq
  exact bX (by omega) fun x lr=>az (by rw[List.getElem?_eq_getElem (by omega),lr])
 have put:∀(o:List UInt8) (q:Nat),i<q->q<=N+1->o.length<=40*q->∀(F:hq->Option ra),(∀bg,Fr N (i+1) bg->Has (F bg) ee)->
   Has (Option.bind (aP (0<=(q:Int)/\(q:Int)<(S.length:Int))) fun _=>Option.bind (gg S (q:Int)) fun lL=>Option.bind (iq S (q:Int)) fun ls=>F (List.set S ((q:Int)).toNat (some (some (cn (aR .str) ls o true))))) ee:=by
  intro o q lc ld O F lt
  obtain⟨lu,lv,lM,lw⟩:=la q lc ld
  refine cf ⟨by omega,by omega⟩ ?_
  rw[lu,Option.bind_some,lv,Option.bind_some,Int.toNat_natCast]
  exact lt _ (lw o O)
 have one:ag ((i:Int)+1)=((i+1:Nat):Int):=bG (by omega)
 have li:∀(o:List UInt8) (q:Nat),v3=true->i<q->q<=N+1->o.length<=40*q->Has (qQ S (i:Int) l1 (w,true) (gx 80000 aC (i:Int) c1 c2 c3 c4 c5 c6 c7 m1 c8 c9 jg l1 v1 false (n+1)) v3 false o (q:Int)) ee:=by
  intro o q le lc ld O
  subst le
  unfold qQ
  refine put o q lc ld O (fun bg=>pj (i:Int) l1 (w,true) _ true false bg) fun bg lf=>?_
  unfold pj tO
  exact aQ (fun R=>nomatch R) fun _=>fin bg _ lf
 have W:∀v4:List Int,v4.length<=8->(w++cz v4).length<=40*i+32:=fun v4 h=>by
  have:=sS v4
  rw[List.length_append]
  omega
 refine aQ (fun U=>?_) fun U=>?_
 ·have lN:=lo i (by rw[lq,U])
  rw[xR (by omega)]
  obtain⟨lO,es,lx⟩:=CL (s:=l1) (a:=i) (b:=i+v1.2.1.length) (by omega) (by omega)
  rw[es,Option.bind_some]
  refine bn (Kt lm O (by rw[lx];intro s ly le;have:=ln s ly le;omega) ..) fun v4 Y=>?_
  have:=W v4 Y
  have lP:=sS v4
  refine cf (by omega) ?_
  rw[List.length_append]at this
  refine cf (by show w.length+_<=_;omega) ?_
  refine aQ (fun Z=>?_) fun Z=>?_
  ·have lz:v1.2.1.length=0:=by simpa using Z
   have lj:∀o:List UInt8,o.length<=40*(i+1)->Has (pL S (i:Int) l1 (w,true) (gx 80000 aC (i:Int) c1 c2 c3 c4 c5 c6 c7 m1 c8 c9 jg l1 v1 false (n+1)) v3 false v1 o) ee:=by
    intro o lb
    unfold pL
    rw[xR (by omega),bG (by omega)]
    exact li o _ U (by omega) (by omega) (by omega)
   refine bO (fun lA=>?_) fun _=>?_
   ·refine bX (by omega) fun lB _=>?_
    have lC:=xW lB
    have lk:(w++cz v4).length<=40*i+32:=W v4 Y
    refine cf (by show(w++cz v4).length+_<=_;omega) ?_
    exact lj _ (by rw[List.length_append];show(w++cz v4).length+_<=_;omega)
   ·exact lj _ (by have lk:(w++cz v4).length<=40*i+32:=W v4 Y;show(w++cz v4).length<=_;omega)
  ·have lz:v1.2.1.length≠0:=by
    intro R
    rw[R]at Z
    simp at Z
   exact li _ _ U (by omega) (by omega) (by have lk:(w++cz v4).length<=40*i+32:=W v4 Y;show(w++cz v4).length<=_;omega)
 ·subst U
  unfold pj tO
  refine aQ (fun _=>?_) fun R=>nomatch R
  have ll:∀o:List UInt8,o.length<=40*(i+1)->Has (pY (i:Int) S (gx 80000 aC (i:Int) c1 c2 c3 c4 c5 c6 c7 m1 c8 c9 jg l1 v1 false (n+1)) (w,true) o) ee:=by
   intro o lb
   unfold pY
   rw[one]
   exact put o (i+1) (by omega) (by omega) lb (fun bg=>gx 80000 aC (i:Int) c1 c2 c3 c4 c5 c6 c7 m1 c8 c9 jg l1 v1 false (n+1) bg [] [(w,true)]) fun bg lf=>fin bg _ lf
  refine bO (fun lA=>?_) fun _=>ll w (by omega)
  refine bX (by omega) fun lD _=>?_
  have lC:=xW lD
  refine cf (by show w.length+_<=_;omega) ?_
  exact ll _ (by rw[List.length_append];show w.length+_<=_;omega)
theorem VQ:∀n (w:List UInt8) o,w.length<=10400->Has (o0 80000 c1 c2 c3 c4 c5 c6 c7 m1 c8 c9 (n+2) [(w,true)] o []) ee:=by
 intro n w o O
 unfold o0 ui
 rw[yB]
 refine bn (zI (s:=w) (by omega)) ?_
 rintro v2 ⟨m,rfl,R⟩
 refine bO (fun _=>az (ee.err (by decide))) fun _=>?_
 refine cf (by have:=gN;simp only[List.length_cons,List.length_nil];omega) ?_
 unfold o0 ui
 rw[qW]
 refine az ⟨fun _=>rfl,Nat.le_refl _,fun x q=>?_⟩
 simp at q
 rw[q]
 exact O
theorem Tj(O:l1.length=N)(W:N<=256){v1:G4}(Y:v1.2.1.length<=8)(Z:cI (c8,c9,())=true)(la:c3.length<=8)(lb:∀s∈c3,s.1=0->0<=s.2.1/\s.2.1<(v1.2.1.length:Int))
  (lc:jg.length=N+1)(ld:∀j:Nat,jg[j]? =some true->j+v1.2.1.length<=N):
  ∀n (i:Nat) (S:hq),i<=N+1->N+1-i<n->Fr N i S->Has (iC 80000 l1 v1 false n (i:Int) S c1 c2 c3 c4 c5 c6 c7 m1 c8 c9 jg) ee:=by
 intro n
 induction n with
 |zero=>intro i S _ h;omega
 |succ n le=>
  intro i S lf li R
  have lj:=R.1
  obtain⟨l,U,o⟩:=R.take lf
  have lk:l.length<=1:=by
   rcases o with ⟨rfl,_⟩|⟨w,rfl,_⟩<;>simp
  unfold iC xT
  rw[bG (by omega)]
  refine bO (fun ll=>?_) fun lm=>?_
  ·refine cf ⟨by omega,by omega⟩ ?_
   rw[pD U,Option.bind_some]
   refine bO (fun q=>absurd q (by show¬(1024:Int)<(l.length:Int);omega)) fun _=>?_
   refine cf ⟨by omega,by omega⟩ ?_
   rw[Int.toNat_natCast]
   refine Qt O W Y Z la lb lc ld (by omega) (fun bg lg=>?_) 79998 (S.set i none) l [] o
   rw[bG (by omega)]
   exact le (i+1) bg (by omega) (by omega) lg
  ·obtain rfl:i=N+1:=by omega
   rw[O]
   refine cf ⟨by omega,by omega⟩ ?_
   rw[pD U,Option.bind_some]
   refine bO (fun q=>absurd q (by show¬(1024:Int)<(l.length:Int);omega)) fun _=>?_
   rcases o with ⟨rfl,lh⟩|⟨w,rfl,ln,_⟩
   ·obtain⟨_,j,_,a,b,_⟩:=lh
    omega
   ·exact VQ 79998 w [] (by omega)
theorem Tx(R:l1.length=N)(U:N<=256){v1:G4}(W:v1.2.1.length<=8)(Y:cI (v1.2.2.2.2.2.2.2.2.1,v1.2.2.2.2.2.2.2.2.2.1,())=true)(Z:v1.2.2.1.length<=8)(la:∀s∈v1.2.2.1,s.1=0->0<=s.2.1/\s.2.1<(v1.2.1.length:Int))
  (lb:v1.2.2.2.2.2.2.2.2.2.2.length=N+1)(lc:∀j:Nat,v1.2.2.2.2.2.2.2.2.2.2[j]? =some true->j+v1.2.1.length<=N):
  ∀n (i:Nat) (S:hq),i<=N+2->N+2-i<n->S.length=N+2->(∀j,j<i->S[j]? =some (some (some [])))->Has (re 80000 l1 v1 false n (i:Int) S) ee:=by
 intro n
 induction n with
 |zero=>intro i S _ h;omega
 |succ n ld=>
  intro i S lg lh q o
  unfold re wY
  have le:(List.map some (List.replicate (ag ((l1.length:Int)+2)).toNat (none:Option bS))).length=N+2:=by
   rw[List.length_map,List.length_replicate,fO (by omega)]
   omega
  rw[le]
  refine bO (fun li=>?_) fun lj=>?_
  ·refine cf ⟨by omega,by omega⟩ ?_
   refine cf ⟨by omega,by omega⟩ ?_
   rw[bG (by omega),Int.toNat_natCast]
   refine ld (i+1) _ (by omega) (by omega) (by rw[List.length_set];exact q) fun j lf=>?_
   by_cases e:i=j
   ·subst e
    rw[List.getElem?_set_self (by omega)]
   ·rw[nS e]
    exact o j (by omega)
  ·refine cf ⟨by omega,by omega⟩ ?_
   have O:=o 0 (by omega)
   rw[show(0:Int)=((0:Nat):Int)from rfl,pD O,Option.bind_some,D7 O,Option.bind_some,Int.toNat_natCast]
   exact Tj R U W Y Z la lb lc 80000 0 _ (by omega) (by omega) (Fr.first q fun j lf=>o j (by omega))
theorem RK(q:l1.length<=256)(R:ef c4)(U:ef c5)(O:c2.length<=8)(W:cI (c8,c9,())=true)(Y:c3.length<=8)(Z:∀s∈c3,s.1=0->0<=s.2.1/\s.2.1<(c2.length:Int)):
  Has (nj 80000 l1 false c1 c2 c3 c4 c5 c6 c7 m1 c8 c9) ee:=by
 have ld:=pU
 unfold nj ti
 rw[bG (by omega)]
 refine bn (Q:=fun v=>∃t,v=(c1,c2,c3,c4,c5,c6,c7,m1,c8,c9,t)/\t.length=l1.length+1/\∀j:Nat,t[j]? =some true->j+c2.length<=l1.length) ?_ ?_
 ·refine cf ⟨by omega,by omega,by omega⟩ ?_
  refine QQ rfl q R U O 80000 0 _ (by omega) (by omega) (by simp) fun j o=>?_
  rw[Int.toNat_natCast,List.getElem?_replicate]at o
  split at o
  ·cases o
  ·cases o
 ·rintro v ⟨t,rfl,la,lb⟩
  have lc:ag ((l1.length:Int)+2)=((l1.length+2:Nat):Int):=by rw[fO (by omega)];omega
  rw[lc]
  refine cf (by omega) ?_
  refine cf ⟨by omega,by omega,by omega⟩ ?_
  exact Tx (v1:=(c1,c2,c3,c4,c5,c6,c7,m1,c8,c9,t)) rfl q O W Y Z la lb 80000 0 _ (Nat.zero_le _) (by omega) (by rw[List.length_map,List.length_replicate,Int.toNat_natCast]) (fun j o=>by omega)
end all
end Go.Ev
namespace Go.Ev
open Go
set_option linter.unusedVariables false
section right
variable {l1:List Int} {N:Nat} {c1:List UInt8} {c2:List cZ} {c3:List fy} {c4 c5:List Node} {c6:Int} {c7:Bool} {m1:fz} {c8:List (List UInt8)} {c9:List cZ}
abbrev Sa:Type:=Int->hq->List Int->List UInt8->List cZ->List fy->List Node->List Node->Int->Bool->fz->List (List UInt8)->List cZ->Option ra
theorem Q2{made:List UInt8}(Y:made.length<=20000)(Z:l1.length<=256)(o:ef c4)(q:ef c5)(O:c2.length<=8){i:Nat}(R:i<=l1.length):
  Has (qK 80000 made (i:Int) c1 c2 c3 c4 c5 c6 c7 m1 c8 c9 l1) fun v=>∃b,v=(b,c1,c2,c3,c4,c5,c6,c7,m1,c8,c9)/\(b=true->i+c2.length<=l1.length):=by
 have la:=gN
 have lb:=O9 made
 unfold qK
 rw[kh R,Option.bind_some]
 have ai:(l1.drop i).length=l1.length-i:=List.length_drop
 refine cf (by omega) ?_
 refine bn (El (by rw[List.length_append];omega) o q O (by omega)) ?_
 rintro v ⟨b,rfl,U⟩
 refine az ⟨b,rfl,fun W=>?_⟩
 have:=U W
 rw[List.length_append]at this
 omega
theorem Vq(lG:l1.length=N)(lH:N<=256)(lm:ef c4)(ln:ef c5)(lo:c2.length<=8)(lp:cI (c8,c9,())=true)(O:c3.length<=8)(lq:∀s∈c3,s.1=0->0<=s.2.1/\s.2.1<(c2.length:Int))
  {aC:Sa}{i:Nat}(lI:i<=N)
  (lg:∀bg,Fr N (i+1) bg->Has (aC (ag ((i:Int)+1)) bg l1 c1 c2 c3 c4 c5 c6 c7 m1 c8 c9) ee):
  ∀n S l lh,Left N i S l->Has (gA 80000 aC (i:Int) l1 l1 c2 false (n+2) S l lh c1 c2 c3 c4 c5 c6 c7 m1 c8 c9) ee:=by
 have lJ:=gN
 intro n S l lh lr
 have fin:∀bg p,Fr N (i+1) bg->Has (gA 80000 aC (i:Int) l1 l1 c2 false (n+1) bg [] p c1 c2 c3 c4 c5 c6 c7 m1 c8 c9) ee:=fun bg p h=>by
  unfold gA rR
  rw[qW]
  exact lg bg h
 unfold gA rR
 rcases lr with ⟨rfl,la⟩|⟨w,rfl,lK,la⟩
 ·rw[qW]
  exact lg S la
 rw[yB]
 refine bn (zI (s:=w) (by omega)) ?_
 rintro v2 ⟨m,rfl,lb⟩
 refine bO (fun _=>az (ee.err (by decide))) fun _=>?_
 refine bn (Q2 (made:=w) (by omega) (by omega) lm ln lo (by omega)) ?_
 rintro v ⟨b,rfl,ls⟩
 have put:∀(o:List UInt8) (q:Nat),i<q->q<=N+1->o.length<=40*q->∀(F:hq->Option ra),(∀bg,Fr N (i+1) bg->Has (F bg) ee)->
   Has (Option.bind (aP (0<=(q:Int)/\(q:Int)<(S.length:Int))) fun _=>Option.bind (gg S (q:Int)) fun lL=>Option.bind (iq S (q:Int)) fun lt=>F (List.set S ((q:Int)).toNat (some (some (cn (aR .str) lt o true))))) ee:=by
  intro o q lc ld O F lu
  obtain⟨lv,lw,lM,lx⟩:=la q lc ld
  refine cf ⟨by omega,by omega⟩ ?_
  rw[lv,Option.bind_some,lw,Option.bind_some,Int.toNat_natCast]
  exact lu _ (lx o O)
 have one:ag ((i:Int)+1)=((i+1:Nat):Int):=bG (by omega)
 have li:∀(o:List UInt8) (q:Nat),b=true->i<q->q<=N+1->o.length<=40*q->Has (qp S (i:Int) l1 (w,true) (gA 80000 aC (i:Int) l1 l1 c2 false (n+1)) (b,c1,c2,c3,c4,c5,c6,c7,m1,c8,c9) false o (q:Int)) ee:=by
  intro o q le lc ld O
  subst le
  unfold qp
  refine put o q lc ld O (fun bg=>o9 (i:Int) l1 (w,true) _ (true,c1,c2,c3,c4,c5,c6,c7,m1,c8,c9) false bg) fun bg lf=>?_
  unfold o9 sZ
  exact aQ (fun R=>nomatch R) fun _=>fin bg _ lf
 have W:∀v4:List Int,v4.length<=8->(w++cz v4).length<=40*i+32:=fun v4 h=>by
  have:=sS v4
  rw[List.length_append]
  omega
 refine aQ (fun U=>?_) fun U=>?_
 ·have lN:=ls U
  rw[xR (by omega)]
  obtain⟨lO,es,ly⟩:=CL (s:=l1) (a:=i) (b:=i+c2.length) (by omega) (by omega)
  rw[es,Option.bind_some]
  refine bn (Kt lp O (by rw[ly];intro s lz le;have:=lq s lz le;omega) ..) fun v4 Y=>?_
  have:=W v4 Y
  have lP:=sS v4
  refine cf (by omega) ?_
  rw[List.length_append]at this
  refine cf (by show w.length+_<=_;omega) ?_
  refine aQ (fun Z=>?_) fun Z=>?_
  ·have lA:c2.length=0:=by simpa using Z
   have lj:∀o:List UInt8,o.length<=40*(i+1)->Has (qr S (i:Int) l1 (w,true) (gA 80000 aC (i:Int) l1 l1 c2 false (n+1)) (b,c1,c2,c3,c4,c5,c6,c7,m1,c8,c9) false c2 o) ee:=by
    intro o lb
    unfold qr
    rw[xR (by omega),bG (by omega)]
    exact li o _ U (by omega) (by omega) (by omega)
   refine bO (fun lB=>?_) fun _=>?_
   ·refine bX (by omega) fun lC _=>?_
    have lD:=xW lC
    have lk:(w++cz v4).length<=40*i+32:=W v4 Y
    refine cf (by show(w++cz v4).length+_<=_;omega) ?_
    exact lj _ (by rw[List.length_append];show(w++cz v4).length+_<=_;omega)
   ·exact lj _ (by have lk:(w++cz v4).length<=40*i+32:=W v4 Y;show(w++cz v4).length<=_;omega)
  ·have lA:c2.length≠0:=by
    intro R
    rw[R]at Z
    simp at Z
   exact li _ _ U (by omega) (by omega) (by have lk:(w++cz v4).length<=40*i+32:=W v4 Y;show(w++cz v4).length<=_;omega)
 ·have lE:b=false:=U
  subst lE
  unfold o9 sZ
  refine aQ (fun _=>?_) fun R=>nomatch R
  have ll:∀o:List UInt8,o.length<=40*(i+1)->Has (qu (i:Int) S (gA 80000 aC (i:Int) l1 l1 c2 false (n+1)) (w,true) (false,c1,c2,c3,c4,c5,c6,c7,m1,c8,c9) o) ee:=by
   intro o lb
   unfold qu
   rw[one]
   exact put o (i+1) (by omega) (by omega) lb (fun bg=>gA 80000 aC (i:Int) l1 l1 c2 false (n+1) bg [] [(w,true)] c1 c2 c3 c4 c5 c6 c7 m1 c8 c9) fun bg lf=>fin bg _ lf
  refine bO (fun lB=>?_) fun _=>ll w (by omega)
  refine bX (by omega) fun lF _=>?_
  have lD:=xW lF
  refine cf (by show w.length+_<=_;omega) ?_
  exact ll _ (by rw[List.length_append];show w.length+_<=_;omega)
theorem PV:∀n (w:List UInt8) o,w.length<=10400->Has (oE 80000 c1 c2 c3 c4 c5 c6 c7 m1 c8 c9 (n+2) [(w,true)] o []) ee:=by
 intro n w o O
 unfold oE rS
 rw[yB]
 refine bn (zI (s:=w) (by omega)) ?_
 rintro v2 ⟨m,rfl,R⟩
 refine bO (fun _=>az (ee.err (by decide))) fun _=>?_
 refine cf (by have:=gN;simp only[List.length_cons,List.length_nil];omega) ?_
 unfold oE rS
 rw[qW]
 refine az ⟨fun _=>rfl,Nat.le_refl _,fun x q=>?_⟩
 simp at q
 rw[q]
 exact O
theorem Ya(O:l1.length=N)(W:N<=256)(Y:ef c4)(Z:ef c5)(la:c2.length<=8)(lb:cI (c8,c9,())=true)(lc:c3.length<=8)(ld:∀s∈c3,s.1=0->0<=s.2.1/\s.2.1<(c2.length:Int)):
  ∀n (i:Nat) (S:hq),i<=N+1->N+1-i<n->Fr N i S->Has (iB 80000 l1 c2 false n (i:Int) S l1 c1 c2 c3 c4 c5 c6 c7 m1 c8 c9) ee:=by
 intro n
 induction n with
 |zero=>intro i S _ h;omega
 |succ n le=>
  intro i S lf li R
  have lj:=R.1
  obtain⟨l,U,o⟩:=R.take lf
  have lk:l.length<=1:=by
   rcases o with ⟨rfl,_⟩|⟨w,rfl,_⟩<;>simp
  unfold iB zL
  rw[bG (by omega)]
  refine bO (fun ll=>?_) fun lm=>?_
  ·refine cf ⟨by omega,by omega⟩ ?_
   rw[pD U,Option.bind_some]
   refine bO (fun q=>absurd q (by show¬(1024:Int)<(l.length:Int);omega)) fun _=>?_
   refine cf ⟨by omega,by omega⟩ ?_
   rw[Int.toNat_natCast]
   refine Vq O W Y Z la lb lc ld (by omega) (fun bg lg=>?_) 79998 (S.set i none) l [] o
   rw[bG (by omega)]
   exact le (i+1) bg (by omega) (by omega) lg
  ·obtain rfl:i=N+1:=by omega
   rw[O]
   refine cf ⟨by omega,by omega⟩ ?_
   rw[pD U,Option.bind_some]
   refine bO (fun q=>absurd q (by show¬(1024:Int)<(l.length:Int);omega)) fun _=>?_
   rcases o with ⟨rfl,lh⟩|⟨w,rfl,ln,_⟩
   ·obtain⟨_,j,_,a,b,_⟩:=lh
    omega
   ·exact PV 79998 w [] (by omega)
theorem N9(W:l1.length<=256)(Y:ef c4)(Z:ef c5)(la:c2.length<=8)(lb:cI (c8,c9,())=true)(lc:c3.length<=8)(ld:∀s∈c3,s.1=0->0<=s.2.1/\s.2.1<(c2.length:Int)):
  Has (kS 80000 l1 false c1 c2 c3 c4 c5 c6 c7 m1 c8 c9) ee:=by
 have lh:=pU
 unfold kS rX
 rw[Option.bind_some]
 have q:ag ((l1.length:Int)+2)=((l1.length+2:Nat):Int):=by rw[fO (by omega)];omega
 rw[q]
 refine cf (by omega) ?_
 refine cf ⟨by omega,by omega,by omega⟩ ?_
 have le:∀n (i:Nat) (S:hq),i<=l1.length+2->l1.length+2-i<n->S.length=l1.length+2->(∀j,j<i->S[j]? =some (some (some [])))->Has (qB 80000 l1 c2 false l1 c1 c3 c4 c5 c6 c7 m1 c8 c9 n (i:Int) S) ee:=by
  intro n
  induction n with
  |zero=>intro i S _ h;omega
  |succ n lf=>
   intro i S li lj O o
   unfold qB xk
   have lg:(List.map some (List.replicate (ag ((l1.length:Int)+2)).toNat (none:Option bS))).length=l1.length+2:=by
    rw[List.length_map,List.length_replicate,q,Int.toNat_natCast]
   rw[lg]
   refine bO (fun lk=>?_) fun ll=>?_
   ·refine cf ⟨by omega,by omega⟩ ?_
    refine cf ⟨by omega,by omega⟩ ?_
    rw[bG (by omega),Int.toNat_natCast]
    refine lf (i+1) _ (by omega) (by omega) (by rw[List.length_set];exact O) fun j R=>?_
    by_cases e:i=j
    ·subst e
     rw[List.getElem?_set_self (by omega)]
    ·rw[nS e]
     exact o j (by omega)
   ·refine cf ⟨by omega,by omega⟩ ?_
    have U:=o 0 (by omega)
    rw[show(0:Int)=((0:Nat):Int)from rfl,pD U,Option.bind_some,D7 U,Option.bind_some,Int.toNat_natCast]
    exact Ya rfl W Y Z la lb lc ld 80000 0 _ (by omega) (by omega) (Fr.first O fun j R=>o j (by omega))
 exact le 80000 0 _ (Nat.zero_le _) (by omega) (by rw[List.length_map,List.length_replicate,Int.toNat_natCast]) (fun j R=>by omega)
end right
end Go.Ev
namespace Go.Ev
open Go
set_option linter.unusedVariables false
theorem WK(f:Nat->Nat):∀(l o:List Nat),l.Nodup->(∀x∈l,x∈o)->(l.map f).sum<=(o.map f).sum:=by
 intro l
 induction l with
 |nil=>intro o _ _;exact Nat.zero_le _
 |cons x t U=>
  intro o q O
  rw[List.nodup_cons]at q
  have W:o.Perm (x::o.erase x):=List.perm_cons_erase (O x List.mem_cons_self)
  have:=U (o.erase x) q.2 fun y R=>(List.mem_erase_of_ne (fun e=>q.1 (by rw[<-e];exact R))).2 (O y (List.mem_cons_of_mem _ R))
  rw[(W.map f).sum_nat,List.map_cons,List.sum_cons,List.map_cons,List.sum_cons]
  omega
def F5(o:List Node)(i:Nat):List Int:=(o[i]?).elim [] fun x=>x.2.2.2.2.1
def ri(o:List Node):Nat->Nat->Nat
 |0,_=>0
 |d+1,i=>1+((F5 o i).map fun k=>ri o d k.toNat).sum
theorem L2{o:List Node}{i:Nat}(h:i<o.length):F5 o i=(o[i]'h).2.2.2.2.1:=by
 unfold F5
 rw[List.getElem?_eq_getElem h]
 rfl
theorem S6{o:List Node}(R:ef o):∀d d' i,i<o.length->o.length-i<=d->o.length-i<=d'->ri o d i=ri o d' i:=by
 intro d
 induction d with
 |zero=>intro d' i q U;omega
 |succ d W=>
  intro d' i q U Y
  obtain⟨d',rfl⟩:∃m,d'=m+1:=⟨d'-1,by omega⟩
  unfold ri
  congr 2
  refine List.map_congr_left fun k O=>?_
  rw[L2 q]at O
  have:=(R.2.2 i q).1 k O
  exact W d' k.toNat (by omega) (by omega) (by omega)
def wt(o:List Node)(i:Nat):Nat:=ri o o.length i
theorem LJ{o:List Node}(q:ef o){i:Nat}(h:i<o.length):wt o i=1+((o[i]'h).2.2.2.2.1.map fun k=>wt o k.toNat).sum:=by
 unfold wt
 rw[S6 q o.length (o.length+1) i h (by omega) (by omega),ri,L2 h]
theorem WG{o:List Node}(R:ef o):∀m,m<=o.length->((List.range' (o.length-m) m).map (wt o)).sum=m+(((o.drop (o.length-m)).flatMap fun x=>x.2.2.2.2.1).map fun k=>wt o k.toNat).sum:=by
 intro m
 induction m with
 |zero=>intro _;simp
 |succ m U=>
  intro h
  have q:o.length-(m+1)<o.length:=by omega
  have O:o.length-(m+1)+1=o.length-m:=by omega
  rw[List.range'_succ,List.map_cons,List.sum_cons,O,U (by omega),List.drop_eq_getElem_cons q,O,List.flatMap_cons,List.map_append,List.sum_append,LJ R q]
  omega
theorem S9{o:List Node}(q:iN o):wt o 0<=o.length:=by
 have le:=q.1.1
 have R:=WG q.1 o.length (Nat.le_refl _)
 rw[Nat.sub_self,List.drop_zero]at R
 have Y:(o.flatMap fun x=>x.2.2.2.2.1)=gj o o.length:=by unfold gj;rw[List.take_length]
 rw[Y]at R
 have U:∀k∈gj o o.length,1<=k/\k<(o.length:Int):=by
  intro k O
  rw[<-Y]at O
  obtain⟨x,W,Z⟩:=List.mem_flatMap.1 O
  obtain⟨i,la,rfl⟩:=List.getElem_of_mem W
  have:=(q.1.2.2 i la).1 k Z
  omega
 have lb:=WK (wt o) ((gj o o.length).map Int.toNat) (List.range' 1 (o.length-1)) ?_ ?_
 ·have e:List.range' 0 o.length=0::List.range' 1 (o.length-1):=by
   rw[show o.length=(o.length-1)+1 by omega,List.range'_succ]
   rfl
  rw[e,List.map_cons,List.sum_cons]at R
  rw[List.map_map]at lb
  have:((gj o o.length).map (wt o∘Int.toNat)).sum=((gj o o.length).map fun k=>wt o k.toNat).sum:=rfl
  omega
 ·rw[List.nodup_iff_pairwise_ne,List.pairwise_map]
  refine List.Pairwise.imp_of_mem ?_ (List.nodup_iff_pairwise_ne.1 q.2.2)
  intro a b lc ld lf e
  have:=U a lc
  have:=U b ld
  omega
 ·intro x W
  obtain⟨k,O,rfl⟩:=List.mem_map.1 W
  have:=U k O
  rw[List.mem_range'_1]
  omega
def qo(b:Nat)(cd:List Node):Prop:=∀j (h:j<cd.length),(∀k∈(cd[j]'h).2.2.2.2.1,((b+j:Nat):Int)<k/\k<((b+cd.length:Nat):Int))/\((cd[j]'h).1=8\/(cd[j]'h).1=9->(cd[j]'h).2.2.2.2.1≠[])/\(cd[j]'h).2.2.2.2.1.length<=1000
theorem qo.append{b:Nat}{s t:List Node}(q:qo b s)(O:qo (b+s.length) t):qo b (s++t):=by
 intro j h
 by_cases e:j<s.length
 ·rw[List.getElem_append_left e]
  obtain⟨a,c,d⟩:=q j e
  refine⟨fun k o=>?_,c,d⟩
  have:=a k o
  rw[List.length_append]
  omega
 ·rw[List.length_append]at h
  have R:j-s.length<t.length:=by omega
  rw[List.getElem_append_right (by omega)]
  obtain⟨a,c,d⟩:=O (j-s.length) R
  refine⟨fun k o=>?_,c,d⟩
  have:=a k o
  rw[List.length_append]
  omega
theorem aal{α:Type}(o:List α)(x y:α)(q:List α):(o++x::q).set o.length y=o++y::q:=by
 rw[List.set_append_right _ _ (Nat.le_refl _),Nat.sub_self]
 rfl
theorem Z9{α:Type}(o:List α)(x:α)(q:List α):ar (o++x::q) (o.length:Int)=some x:=by
 rw[EA,List.getElem?_append_right (Nat.le_refl _),Nat.sub_self]
 rfl
abbrev PL:Type:=Int->List Node->Bool->List Node->Option (List Node)
def rq(rows:List Node)(n:Nat)(v:List Node):Prop:=∃cd,v=rows++cd/\qo rows.length cd/\1<=cd.length/\cd.length<=n
theorem U2{q:List Node}{Y:Bool}{o:List Int}{rows:List Node}{Z:PL}{x:Node}(R:o.length<=1000)(lf:x.1=8\/x.1=9->o≠[])
  (lo:rows.length+1+(o.map fun k=>wt q k.toNat).sum<=1000)
  (lg:∀k∈o,∀al:List Node,al.length+wt q k.toNat<=1000->Has (Z k q Y al) (rq al (wt q k.toNat))):
  ∀n (i:Nat) (U:List Int) (O:List Node),i<=o.length->o.length-i<n->U.length=i->(∀k∈U,(rows.length:Int)<k/\k<((rows.length+1+O.length:Nat):Int))->qo (rows.length+1) O->O.length<=((o.take i).map fun k=>wt q k.toNat).sum->
   Has (sm o rows Z q Y n (i:Int) (rows++(x.1,x.2.1,x.2.2.1,x.2.2.2.1,U,())::O)) (rq rows (1+(o.map fun k=>wt q k.toNat).sum)):=by
 have lp:=gN
 intro n
 induction n with
 |zero=>intro i _ _ _ h;omega
 |succ n lh=>
  intro i U O lq lr la lb lc li
  unfold sm LP
  refine bO (fun ls=>?_) fun lt=>?_
  ·have W:i<o.length:=by omega
   refine bX W fun y ld=>?_
   have lu:((o.take (i+1)).map fun k=>wt q k.toNat).sum=((o.take i).map fun k=>wt q k.toNat).sum+wt q y.toNat:=by
    rw[List.take_succ_eq_append_getElem W,ld,List.map_append,List.sum_append]
    simp
   have lv:((o.take (i+1)).map fun k=>wt q k.toNat).sum<=(o.map fun k=>wt q k.toNat).sum:=by
    have:(o.map fun k=>wt q k.toNat).sum=((o.take (i+1)).map fun k=>wt q k.toNat).sum+((o.drop (i+1)).map fun k=>wt q k.toNat).sum:=by
     rw[<-List.sum_append,<-List.map_append,List.take_append_drop]
    omega
   have lj:(rows++(x.1,x.2.1,x.2.2.1,x.2.2.2.1,U,())::O).length=rows.length+1+O.length:=by
    simp only[List.length_append,List.length_cons]
    omega
   rw[lj]
   refine cf ⟨by omega,by omega⟩ ?_
   rw[Z9,Option.bind_some]
   refine cf (by show U.length+_<=_;simp only[List.length_cons,List.length_nil];omega) ?_
   refine cf ⟨by omega,by omega⟩ ?_
   rw[Int.toNat_natCast,aal]
   refine bn (lg y (ld▸List.getElem_mem _) _ ?_) ?_
   ·simp only[List.length_append,List.length_cons]
    omega
   ·rintro v ⟨cd,rfl,le,lw,lx⟩
    simp only[List.length_append,List.length_cons]at le
    rw[bG (by omega),List.append_assoc,List.cons_append]
    refine lh (i+1) (U++[((rows.length+1+O.length:Nat):Int)]) (O++cd) (by omega) (by omega) (by simp[la]) ?_ ?_ (by rw[List.length_append];omega)
    ·intro k R
     rw[List.length_append]
     rcases List.mem_append.1 R with R|R
     ·have:=lb k R
      omega
     ·simp only[List.mem_cons,List.not_mem_nil,or_false]at R
      omega
    ·refine lc.append ?_
     rw[show rows.length+1+O.length=rows.length+(O.length+1) by omega]
     exact le
  ·have W:i=o.length:=by omega
   rw[W,List.take_length]at li
   refine az ⟨(x.1,x.2.1,x.2.2.1,x.2.2.2.1,U,())::O,rfl,?_,by simp,by rw[List.length_cons];omega⟩
   intro j h
   match j,h with
   |0,h=>
    refine⟨fun k R=>?_,fun lk e=>?_,by show U.length<=_;omega⟩
    ·have:=lb k R
     rw[List.length_cons]
     omega
    ·have ll:U=[]:=e
     have lm:o.length=0:=by rw[<-W,<-la,ll];rfl
     exact lf lk (List.length_eq_zero_iff.1 lm)
   |j+1,h=>
    have ln:j<O.length:=by simpa using h
    obtain⟨a,c,d⟩:=lc j ln
    refine⟨fun k R=>?_,c,d⟩
    have:=a k R
    rw[List.length_cons]
    omega
theorem aaB{o:List Node}(Z:ef o)(Y:Bool):∀d k (q:Nat),q<o.length->o.length-q<=d->60000+d<=k->∀al:List Node,al.length+wt o q<=1000->Has (jO k (q:Int) o Y al) (rq al (wt o q)):=by
 have lm:=gN
 have ln:=pU
 intro d
 induction d with
 |zero=>intro k q W le;omega
 |succ d lf=>
  intro k q W le lo al la
  obtain⟨k,rfl⟩:∃m,k=m+1:=⟨k-1,by omega⟩
  have R:=Z.2.2 q W
  have lb:=LJ Z W
  unfold jO
  refine bX W fun x lg=>?_
  rw[lg]at R lb
  have lh:∀y∈x.2.2.2.2.1,∀al:List Node,al.length+wt o y.toNat<=1000->Has (jO k y o Y al) (rq al (wt o y.toNat)):=by
   intro y O al la
   have:=R.1 y O
   obtain⟨m,rfl⟩:∃m:Nat,y=(m:Int):=⟨y.toNat,by omega⟩
   exact lf k m (by omega) (by omega) (by omega) al la
  unfold pT
  refine bn (Q:=fun v=>v=x.2.2.2.2.1) (cf (by have:=R.2.2;simp only[List.length_nil];omega) (az (List.nil_append _))) ?_
  rintro v rfl
  have lc:∀U:List Int,U.length=x.2.2.2.2.1.length->(∀y∈U,y∈x.2.2.2.2.1)->(U.map fun k=>wt o k.toNat).sum=(x.2.2.2.2.1.map fun k=>wt o k.toNat).sum->Has (uj k al x (jO k) o Y U) (rq al (wt o q)):=by
   intro U ld li lj
   have lp:=R.2.2
   unfold uj
   refine cf ⟨by omega,by omega,by omega⟩ ?_
   refine cf (by simp only[List.length_cons,List.length_nil];omega) ?_
   rw[lb,<-lj]
   refine U2 (x:=x) (by omega) (fun lk e=>?_) (by omega) (fun y O=>lh y (li y O)) k 0 [] [] (Nat.zero_le _) (by omega) rfl (fun k ll=>by cases ll) (fun j h=>by cases h) (Nat.zero_le _)
   rw[e]at ld
   exact R.2.1 lk (List.length_eq_zero_iff.1 ld.symm)
  unfold Pr
  refine aQ (fun _=>lc _ List.length_reverse (fun y O=>List.mem_reverse.1 O) ?_) fun _=>lc _ rfl (fun y O=>O) rfl
  rw[List.map_reverse]
  exact(List.reverse_perm _).sum_nat
theorem KN(p:jl)(o:iN p.1)(q:jW 80000 (p.1,())=some true):Has (tR 80000 p) fun v=>ef v.1.1:=by
 have Y:=S9 o
 have Z:=o.2.1
 unfold tR tP
 rw[q,Option.bind_some]
 refine aQ (fun O=>nomatch O) fun _=>?_
 refine bn (Q:=rq [] (wt p.1 0)) (bn (aaB o.1 true 1000 80000 0 o.1.1 (by omega) (by omega) [] (by simp only[List.length_nil];omega)) fun v R=>az R) ?_
 rintro v ⟨cd,e,U,W,la⟩
 rw[List.nil_append]at e
 subst e
 refine az ?_
 show ef v
 refine⟨W,by omega,fun i h=>?_⟩
 have:=U i h
 simp only[List.length_nil,Nat.zero_add]at this
 exact this
structure Bo(r:fl):Prop where
 target:r.2.1.length<=8
 pW:r.2.2.1.length<=8
 from_:∀s∈r.2.2.1,s.1=0->0<=s.2.1/\s.2.1<(r.2.1.length:Int)
 left:ef r.2.2.2.1.1
 right:ef r.2.2.2.2.1.1
theorem qC.run{a:br}{r:fl}(h:qC a r):Bo r:=⟨h.target,h.pW,h.from_,h.left.1,h.right.1⟩
theorem We{a:br}{r:fl}(h:qC a r):Has (sf 80000 r) fun v=>Bo v:=by
 have le:=gN
 have W:=h.target
 have lf:=h.pW
 unfold sf rh rr
 refine bn (Q:=fun v=>v=r.2.1) (cf (by simp only[List.length_nil];omega) (az (List.nil_append _))) ?_
 rintro v1 rfl
 refine bn (Q:=fun v=>v=r.2.2.1) (cf (by simp only[List.length_nil];omega) (az (List.nil_append _))) ?_
 rintro v2 rfl
 have Y:∀n (i:Nat) (t:List fy),i<=r.2.2.1.length->r.2.2.1.length-i<n->t.length=r.2.2.1.length->(∀s∈t,s.1=0->0<=s.2.1/\s.2.1<(r.2.1.length:Int))->Has (uh 80000 r.2.2.1 r.2.1 r n (i:Int) t) fun v=>Bo v:=by
  intro n
  induction n with
  |zero=>intro i t _ h;omega
  |succ n R=>
   intro i t lg lh U q
   unfold uh Pu zH
   rw[List.length_reverse,List.length_reverse]
   refine bO (fun li=>?_) fun lj=>?_
   ·refine bX (by omega) fun x Z=>?_
    rw[bG (by omega)]
    refine aQ (fun O=>?_) fun _=>R (i+1) t (by omega) (by omega) U q
    have la:x.1=0:=by simpa using O
    have lk:=q x (Z▸List.getElem_mem _) la
    refine R (i+1) _ (by omega) (by omega) (by rw[List.length_set];exact U) fun s o lb=>?_
    rcases List.mem_or_eq_of_mem_set o with o|rfl
    ·exact q s o lb
    ·have e:ag ((ag ((r.2.1.length:Int)-1))-x.2.1)=(r.2.1.length:Int)-1-x.2.1:=by
      rw[fO (x:=(r.2.1.length:Int)-1) (by omega),fO (by omega)]
     show 0<=ag ((ag ((r.2.1.length:Int)-1))-x.2.1)/\ag ((ag ((r.2.1.length:Int)-1))-x.2.1)<_
     rw[e]
     omega
   ·refine bn (KN (r.2.2.2.2.1.1,()) h.right h.Ta) fun v3 lc=>?_
    refine bn (KN (r.2.2.2.1.1,()) h.left h.Ul) fun v4 ld=>az ?_
    refine⟨?_,?_,?_,lc,ld⟩
    ·show(List.reverse r.2.1).length<=8
     rw[List.length_reverse];exact W
    ·show t.length<=8
     omega
    ·intro s o O
     show _/\_<((List.reverse r.2.1).length:Int)
     rw[List.length_reverse]
     exact q s o O
 exact Y 80000 0 _ (Nat.zero_le _) (by omega) List.length_reverse fun s o=>h.from_ s (List.mem_reverse.1 o)
end Go.Ev
namespace Go.Ev
open Go
set_option linter.unusedVariables false
def M8(v:List (List UInt8)×Int):Prop:=(v.2=0->v.1.length=1)/\∀w∈v.1,w.length<=50000
theorem X6{v9:ra}(O:ee v9):∀n (i:Nat) (t:List (List UInt8)),i<=v9.2.2.2.2.2.2.2.2.2.2.2.length->v9.2.2.2.2.2.2.2.2.2.2.2.length-i<n->t.length=v9.2.2.2.2.2.2.2.2.2.2.2.length->(∀w∈t,w.length<=10400)->
  Has (qX v9 n (i:Int) t) M8:=by
 have Z:=gN
 have la:=O.2.1
 intro n
 induction n with
 |zero=>intro i t _ h;omega
 |succ n lb=>
  intro i t lc ld U R
  unfold qX AQ
  refine bO (fun le=>?_) fun _=>az ⟨fun q=>?_,fun w o=>?_⟩
  ·refine bX (by omega) fun x W=>?_
   have lf:=R x (W▸List.getElem_mem _)
   have lg:=O9 x
   have Y:=sS (List.reverse (eJ x))
   rw[List.length_reverse]at Y
   refine cf (by omega) ?_
   by_cases lh:i+1<v9.2.2.2.2.2.2.2.2.2.2.2.length
   ·omega
   rw[bG (by omega)]
   unfold qX
   obtain⟨n,rfl⟩:∃m,n=m+1:=⟨n-1,by omega⟩
   unfold AQ
   refine bO (fun q=>by omega) fun _=>az ⟨fun q=>?_,fun w o=>?_⟩
   ·show(List.set t _ _).length=1
    rw[List.length_set,U]
    exact O.1 q
   ·rcases List.mem_or_eq_of_mem_set o with o|rfl
    ·have:=R w o
     omega
    ·omega
  ·show t.length=1
   rw[U]
   exact O.1 q
  ·have:=R w o
   omega
theorem Wb(a:br)(r:fl)(w:List UInt8):Has (uD 80000 a r w) M8:=by
 unfold uD
 refine bn (HX a r) fun v1 la=>?_
 refine aQ (fun h=>az ⟨fun W=>(by rw[show v1=0 from W]at h;cases h),fun w O=>by cases O⟩) fun lb=>?_
 have R:=la (by simpa using lb)
 have o:=R.run
 refine bn (XG a w) fun v2 Y=>?_
 refine aQ (fun h=>az ⟨fun W=>(by rw[show v2.1=0 from W]at h;cases h),fun w O=>by cases O⟩) fun _=>?_
 refine aQ (fun _=>?_) fun _=>?_
 ·refine bn (xv a o.target o.left.2.1 o.right.2.1) ?_
  rintro v ⟨m,rfl⟩
  refine bn (RK Y o.left o.right o.target R.E4 o.pW o.from_) fun v4 U=>az ⟨U.1,fun w O=>?_⟩
  have:=U.2.2 w O
  omega
 refine aQ (fun _=>?_) fun _=>?_
 ·refine bn (xv a o.target o.left.2.1 o.right.2.1) ?_
  rintro v ⟨m,rfl⟩
  refine bn (N9 Y o.left o.right o.target R.E4 o.pW o.from_) fun v4 U=>az ⟨U.1,fun w O=>?_⟩
  have:=U.2.2 w O
  omega
 ·refine bn (We R) fun lc q=>?_
  refine bn (xv a q.target q.left.2.1 q.right.2.1) ?_
  rintro v ⟨m,rfl⟩
  refine bn (N9 (by rw[List.length_reverse];exact Y) q.left q.right q.target R.E4 q.pW q.from_) fun v9 Z=>?_
  have ld:=Z.2.1
  exact X6 Z 80000 0 _ (Nat.zero_le _) (by omega) rfl Z.2.2
theorem PH(a:br)(r:fl)(w:List UInt8):Has (yN 80000 a r w) fun v=>v.1.length<=50000:=by
 unfold yN
 refine bn (Wb a r w) fun v1 o=>?_
 refine aQ (fun _=>az (Nat.zero_le _)) fun q=>?_
 have:=o.1 (by simpa using q)
 exact bX (i:=0) (by omega) fun x O=>az (o.2 x (O▸List.getElem_mem _))
theorem Kf(a:br)(l:List fl):Has (uF 80000 a l) fun e=>e=0->cI a=true/\l.length<=64:=by
 unfold uF
 rw[show eK 80000 ((a.1,a.2.1,()):br)=some (if cI a then 0 else 7)from kb a,Option.bind_some]
 refine aQ (fun h=>az fun o=>by rw[o]at h;cases h) fun h=>?_
 have O:cI a=true:=by
  cases aJ:cI a with
  |true=>rfl
  |false=>rw[aJ]at h;cases h
 refine bO (fun _=>az fun o=>nomatch o) fun W=>?_
 have R:∀n (i:Nat),i<=l.length->l.length-i<n->Has (sF 80000 l a n (i:Int)) fun e=>e=0->cI a=true/\l.length<=64:=by
  intro n
  induction n with
  |zero=>intro i _ h;omega
  |succ n U=>
   intro i Y Z
   unfold sF NH
   refine bO (fun la=>?_) fun _=>az fun _=>⟨O,by omega⟩
   refine bX (by omega) fun x lb=>?_
   refine bn (gC (ZI ..)) fun v _=>?_
   refine aQ (fun q=>az fun o=>by rw[o]at q;cases q) fun _=>?_
   rw[bG (by omega)]
   exact U (i+1) (by omega) (by omega)
 exact R 80000 0 (Nat.zero_le _) (by omega)
theorem XQ(a:br)(w:List UInt8)(l:List fl):Has (sR 80000 a w l) fun e=>e=0->l.length<=64:=by
 unfold sR
 refine bn (Kf a l) fun v1 o=>?_
 refine aQ (fun h=>az fun q=>by rw[q]at h;cases h) fun O=>?_
 have:=o (by simpa using O)
 exact bn (Qq a this.1 w) fun v2 _=>az fun _=>this.2
theorem Wz(a:br){l:List fl}(U:l.length<=64):∀n (i:Nat) (w:List UInt8) (st:List (Int×List UInt8×List UInt8×Unit)),i<=l.length->l.length-i<n->st.length<=i->Has (u9 80000 l a n w (i:Int) st) fun v=>w.length<=50000->v.1.length<=50000:=by
 have W:=gN
 intro n
 induction n with
 |zero=>intro i _ _ _ h;omega
 |succ n q=>
  intro i w st Y Z la
  unfold u9 IW
  refine bO (fun lb=>?_) fun _=>az fun R=>R
  refine bX (by omega) fun x _=>?_
  refine bn (PH ..) fun v1 O=>?_
  refine aQ (fun _=>az fun _=>Nat.zero_le _) fun _=>?_
  unfold zG
  rw[bG (by omega)]
  refine aQ (fun _=>?_) fun _=>jZ (q (i+1) _ _ (by omega) (by omega) (by omega)) fun v o _=>o O
  refine cf (by simp only[List.length_cons,List.length_nil];omega) ?_
  exact jZ (q (i+1) _ _ (by omega) (by omega) (by simp only[List.length_append,List.length_cons,List.length_nil];omega)) fun v o _=>o O
theorem YP(a:br)(l:List fl)(w:List UInt8):Has (mq 80000 a l w) fun v=>(v.2=0->l=[]->v.1=w)/\(w.length<=50000->v.1.length<=50000):=by
 unfold mq CY
 refine bn (XQ a w l) fun v1 q=>?_
 refine aQ (fun h=>az ⟨fun o=>(by rw[show v1=0 from o]at h;cases h),fun _=>Nat.zero_le _⟩) fun O=>?_
 have R:=q (by simpa using O)
 cases l with
 |nil=>exact az ⟨fun _ _=>rfl,fun h=>h⟩
 |cons x l=>exact bn (Wz a R 80000 0 w [] (Nat.zero_le _) (by omega) (Nat.zero_le _)) fun v2 U=>az ⟨fun _ o=>(nomatch o),U⟩
def cT(a:br)(l:List fl)(w:List UInt8):List UInt8×Int:=(mq 80000 a l w).getD ([],0)
theorem Pp(a:br)(l:List fl)(w:List UInt8):mq 80000 a l w=some (cT a l w):=by
 obtain⟨v,e,_⟩:=YP a l w
 unfold cT
 rw[e]
 rfl
end Go.Ev
namespace Go.Ev
set_option linter.unusedVariables false
variable {p:Nat->Nat}
end Go.Ev
namespace Go.Ev
open Go
set_option linter.unusedVariables false
abbrev Vs:Type:=List UInt8×Int×List fl×Unit
structure aco(l:List Vs):Prop where
 pos:1<=l.length
 le:l.length<=32
 root:∀h:0<l.length,(l[0]'h).2.1=-1
 parent:∀i (h:i<l.length),0<i->0<=(l[i]'h).2.1/\(l[i]'h).2.1<(i:Int)
 name:∀i (h:i<l.length),(l[i]'h).1.length<=32/\∀j,j<(l[i]'h).1.length->bx (l[i]'h).1 j≠10
end Go.Ev
namespace Go.Ev
open Go
set_option linter.unusedVariables false
/-! A word of any length is read to0 its end. -/
theorem abk{s:List UInt8}(U:s.length<=65536):∀n p (t:List kW),p<=s.length->s.length-p<n->t.length<=p->Has (mX 80000 s n p t) fun v=>v.length<=65536:=by
 have W:=wE
 intro n
 induction n with
 |zero=>intro p t _ h;omega
 |succ n q=>
  intro p t Y Z la
  unfold mX Dl
  refine bO (fun h=>?_) fun _=>az (by omega)
  have lb:=ju s p h
  have o:∀a b,Has (nn 80000 s p t (mX 80000 s n) a b) fun v=>v.length<=65536:=by
   intro a b
   unfold nn qL
   refine bn (Q:=fun v=>v.1=true/\v.2.length=t.length+1) (cf (by simp only[List.length_cons,List.length_nil];omega) (az ⟨rfl,by simp⟩)) ?_
   rintro v ⟨O,lc⟩
   rw[O]
   refine aQ (fun R=>nomatch R) fun _=>?_
   exact q (p+jd s p) v.2 (by rw[iR];omega) (by rw[iR];omega) (by rw[iR];omega)
  refine bn (gC (Ks 80000 (gJ s p))) fun l _=>?_
  split
  ·rw[kh (by omega),Option.bind_some]
   unfold utf8_DecodeRuneInString
   rw[Option.bind_some]
   split
   ·exact o _ _
   ·exact o _ _
  ·exact o _ _
theorem abe{s:List UInt8}(o:s.length<=65536):Has (r4 80000 s) fun v=>v.1.length<=65536:=by
 unfold r4 wb
 rw[if_neg (by simp only[decide_eq_true_eq];omega),Option.bind_some]
 refine aQ (fun _=>az (Nat.zero_le _)) fun _=>?_
 unfold pX
 exact bn (abk o 80000 0 [] (Nat.zero_le _) (by omega) (Nat.zero_le _)) fun v q=>az q
theorem PE{v:List kW×Int}(O:v.1.length<=65536)(m:Option dz):∀n (i:Nat) (o:List Int),i<=v.1.length->v.1.length-i<n->o.length<=i->Has (nH v m n (i:Int) o) fun _=>True:=by
 have R:=wE
 intro n
 induction n with
 |zero=>intro i o _ h;omega
 |succ n q=>
  intro i o U W Y
  unfold nH Gl
  refine bO (fun h=>?_) fun _=>az trivial
  refine bX (by omega) fun x _=>?_
  refine aQ (fun _=>az trivial) fun _=>?_
  refine aQ (fun _=>az trivial) fun _=>?_
  refine aQ (fun _=>az trivial) fun _=>?_
  refine cf (by simp only[List.length_cons,List.length_nil];omega) ?_
  rw[bG (by omega)]
  exact q (i+1) _ (by omega) (by omega) (by simp only[List.length_append,List.length_cons,List.length_nil];omega)
theorem B5(a:br)(w:List UInt8):Has (je 80000 a w) fun _=>True:=by
 unfold je kY yJ
 refine bn (Q:=fun _=>True) ?_ fun _ _=>az trivial
 rw[show eK 80000 ((a.1,a.2.1,()):br)=some (if cI a then 0 else 7)from kb a,Option.bind_some]
 have U:∀m,Has (tc 80000 m w) fun _=>True:=by
  intro m
  have O:∀s:List UInt8,s.length<=65536->Has (qS 80000 m s) fun _=>True:=by
   intro s R
   unfold qS
   refine bn (abe R) fun v q=>?_
   refine aQ (fun _=>az trivial) fun _=>?_
   exact PE q m 80000 0 [] (Nat.zero_le _) (by omega) (Nat.zero_le _)
  unfold tc
  refine bO (fun h=>?_) fun h=>O w (by omega)
  obtain⟨s,e,R⟩:=CL (s:=w) (a:=0) (b:=65536) (Nat.zero_le _) (by omega)
  rw[show(0:Int)=((0:Nat):Int)from rfl,show(65536:Int)=((65536:Nat):Int)from rfl,e,Option.bind_some]
  exact O s (by omega)
 cases W:cI a with
 |false=>
  refine bn (Q:=fun v=>v.2≠0) (aQ (fun _=>az (by decide)) fun o=>nomatch o) fun v q=>?_
  refine aQ (fun _=>az trivial) fun o=>?_
  simp at o
  exact absurd o q
 |true=>
  have Y:=yZ W
  refine bn (Q:=fun _=>True) (aQ (fun _=>az trivial) fun _=>?_) fun v _=>?_
  ·obtain⟨m,Z,lb⟩:=aa2 (a.1,a.2.1,()) Y.2.2 80000 0 [] (Nat.zero_le _) (by show a.2.1.length-0<80000;omega) (fun r la=>by simp[bM]at la)
   exact⟨_,Z,trivial⟩
  refine aQ (fun _=>az trivial) fun _=>?_
  exact bn (U _) fun _ _=>az trivial
/-! The first of a family's languages has no laws. -/
/-! The table. -/
/-! Down a path. -/
/-! The law. -/
end Go.Ev
