/- LoanFits: the row's statement and its tied card. No conditions. -/
import Derived.Test.YteopobecmacgdaaGreatDoorMM4
import Derived.Test.YteopobecmacgdaaGreatDoorCtLo
import Derived.Test.YteopobecmacgdaaGreatDoorMM10
import Derived.Test.YteopobecmacgdaaGreatDoorTie
import Derived.Test.YteopobecmacgdaaGreatDoorCards
import Derived.ProofKit
import Derived.PinnedBridge
import Derived.Lay
import Derived.Carry
import Derived.SevenTiedAt
set_option linter.unusedSectionVars false
set_option linter.unusedVariables false
set_option linter.unusedSimpArgs false
namespace Go.Proofs.YteopobecmacgdaaGreatDoor
open Go.RowKit Go.ChangeShapes Go.WideShapes Go.ChangeAt Go.Ev
theorem QX:ownKnob Tryz.prog.godebug=none:=by kernel_rfl
theorem VI:(Rows.laid_unicode_utf8_acceptRanges:DataW Unit)=Lib.acceptData:=by kernel_rfl
theorem V9:Rows.laid_unicode_utf8_first=Lib.firstData:=Pinned.utf8First_eq
theorem Pr(k:Nat){v0 v1 v2:Value}{W:World}{o:(List (List UInt8)×List ((Int×Int×Int×Unit))×Unit)}(O:ba W (fun _=>False) v0 ((.pair (.ab .str) (.pair (.ab (.pair (.int .i32) (.pair (.int .u32) (.pair (.int .u32) .unit)))) .unit))) o){q:(List (List UInt8)×List ((Int×Int×Int×Unit))×Unit)}(R:ba W (fun _=>False) v1 ((.pair (.ab .str) (.pair (.ab (.pair (.int .i32) (.pair (.int .u32) (.pair (.int .u32) .unit)))) .unit))) q){L:List UInt8}(bW:ba W (fun _=>False) v2 (.str) L)(U:vK k o q L=some true)(Y:am W):
  Calls Tryz.prog 9 #[v0,v1,v2] W fun e w'=>e=.returned (.bool true)/\Below W.heap.size W w':=by
 have c:=(Hb k).calls W (fun _=>False) [v0,v1,v2] [⟨(.pair (.ab .str) (.pair (.ab (.pair (.int .i32) (.pair (.int .u32) (.pair (.int .u32) .unit)))) .unit)),o⟩,⟨(.pair (.ab .str) (.pair (.ab (.pair (.int .i32) (.pair (.int .u32) (.pair (.int .u32) .unit)))) .unit)),q⟩,⟨.str,L⟩] [⟨.bool,true⟩] Y (fun _ h=>h.elim) U ⟨O,R,bW,trivial⟩
 refine c.mono ?_
 rintro e w' ⟨v,rfl,Z,la⟩
 have:v=.bool true:=by
  have lb:[v]=[.bool true]:=Z
  simpa using lb
 subst this
 exact⟨rfl,la.below⟩
theorem Tu{v0 v1 v2:Value}{W:World}{o:(List (List UInt8)×List ((Int×Int×Int×Unit))×Unit)}(q:ba W (fun _=>False) v0 ((.pair (.ab .str) (.pair (.ab (.pair (.int .i32) (.pair (.int .u32) (.pair (.int .u32) .unit)))) .unit))) o){L:(List (List UInt8)×List ((Int×Int×Int×Unit))×Unit)}(O:ba W (fun _=>False) v1 ((.pair (.ab .str) (.pair (.ab (.pair (.int .i32) (.pair (.int .u32) (.pair (.int .u32) .unit)))) .unit))) L){R:List UInt8}(bW:ba W (fun _=>False) v2 (.str) R)(U:am W):
  Calls Tryz.prog 9 #[v0,v1,v2] W fun e w'=>e=.returned (.bool true)/\Below W.heap.size W w':=Pr sE q O bW (Nv _ _ _) U
set_option maxRecDepth 100000 in
theorem Oc(os:Os)(ld:os.Started)(le:Type)(enc:TypeId×Value->le):
  ReturnsInHanded {} Tryz.checked os 9 .any (fun w args=>(Rows.loanFitsSpec.pre enc Tryz.prog Tryz.f9 [] false w args/\laidMetH Tryz.prog Rows.loanFitsRow.laid w)/\sizedMet enc Tryz.prog Tryz.f9 (OpenSpec.ofChange Rows.loanFitsSpec) false w args)
   (Rows.loanFitsSpec.post enc Tryz.prog Tryz.f9 false true false false):=by
 refine returnsInHanded_of_change_and (C:=Tryz.checked) (X:=fun w _=>laidMetH Tryz.prog Rows.loanFitsRow.laid w) (fun _ _ _ lf h=>h.of_heap lf) QX ld (by kernel_rfl) Tryz.func9
  (ChangeSpec.witness_shaped (enc:=enc) (C:=Tryz.checked) (os:=os) (X:=fun w _=>laidMetH Tryz.prog Rows.loanFitsRow.laid w) false (World.laidAll Tryz.prog os Rows.loanFitsRow.laid) #[.agg #[.slice none 0 0,.slice none 0 0],.agg #[.slice none 0 0,.slice none 0 0],.string ⟨#[]⟩] 8 (World.laidAll_os _ _ _)
   (World.shaped_of_ZipB (by kernel_rfl) (by kernel_rfl)) (by kernel_rfl) (by kernel_rfl) (by kernel_rfl)
   (by rw[MakeChecks.laidMetH_plain _ _ _ (by kernel_rfl)];exact laidMet_laidAll _ (by kernel_rfl) (by kernel_rfl))) ?_
 intro W lg args lh lp lq li Y _ _ O _
 have q:∀(j:Nat) t v,Tryz.f9.params[j]? =some t->args[j]? =some v->Value.okWide Tryz.prog W .any lg t v:=li
 have Z:=Y
 obtain⟨p,lr,lj,lk,rfl,_,_⟩:=Y
 have R:DataW.TrodAll enc Tryz.prog W 0 (fun _=>true) true Tryz.f9.params.toList args.toList lh p:=lj
 rw[Tryz.params9]at R q
 have U:=R.lt
 obtain⟨v0,v1,v2,d0,d1,d2,ls,lt,lu,rfl,rfl,rfl,la,lb,lc⟩:=trodAll_three R
 obtain⟨rfl,rfl⟩:=trodVars_none lk
 obtain⟨lv,ll,lw⟩:=EE (P:=Tryz.prog) (t:=25) (u:=(.pair (.ab .str) (.pair (.ab (.pair (.int .i32) (.pair (.int .u32) (.pair (.int .u32) .unit)))) .unit))) (by kernel_rfl) rfl (q 0 _ v0 rfl rfl) la
 obtain⟨lx,lm,ly⟩:=EE (P:=Tryz.prog) (t:=25) (u:=(.pair (.ab .str) (.pair (.ab (.pair (.int .i32) (.pair (.int .u32) (.pair (.int .u32) .unit)))) .unit))) (by kernel_rfl) rfl (q 1 _ v1 rfl rfl) lb
 obtain⟨lz,bW,lA⟩:=EE (P:=Tryz.prog) (t:=9) (u:=.str) (by kernel_rfl) rfl (q 2 _ v2 rfl rfl) lc
 simp only[List.append_nil]at Z
 rw[MakeChecks.laidMetH_plain _ _ _ (by kernel_rfl)]at O
 have ln:am W:=P2 (V9▸Lib.laidMet.reads O (.tail _ (.head _))) (VI▸Lib.laidMet.reads O (.head _))
 refine(Tu ll lm bW ln).mono fun e lB ⟨lo,L⟩=>?_
 subst lo
 exact⟨_,rfl,_,_,_,[],_,[],Z,trodAll_mk1 (shut_bool Tryz.underlying4 _),trodAll_mk3 (Below.trod (by kernel_rfl) (by kernel_rfl) (of_decide_eq_true (by kernel_rfl)) la L (fun x o=>U x (by simp[o]))) (Below.trod (by kernel_rfl) (by kernel_rfl) (of_decide_eq_true (by kernel_rfl)) lb L (fun x o=>U x (by simp[o]))) (Below.trod (by kernel_rfl) (by kernel_rfl) (of_decide_eq_true (by kernel_rfl)) lc L (fun x o=>U x (by simp[o]))),rfl,L.frame _,fun h=>by cases h⟩
theorem loanFits_holds:Rows.LoanFitsSaid:=
 OpenClaim.holds_of_wide 9 Tryz.f9 rfl rfl rfl rfl rfl rfl rfl ⟨rfl,rfl,rfl,rfl,rfl⟩ rfl rfl rfl rfl rfl (by kernel_rfl) Tryz.func9 (by kernel_rfl)
  (of_decide_eq_true (by kernel_rfl)) (by unfold Func.isWrapper;first|(rw[if_pos (by decide+kernel)];kernel_rfl)|(rw[if_neg (by decide+kernel)];exact⟨rfl,rfl⟩))
  (fun os o q enc _=>Oc os o q enc)
theorem loanFits_card_holds:Rows.LoanFitsCardSaid:=
 Claim7.holds_tied_plain_at .later [] [.data,.pinned] true (true, "71b8036f06c464b610c67a51668d563faa5ee9e6c60d1dea641c5cf315011900") true loanFits_holds (fun _ h=>by cases h) (by kernel_rfl) (fun _ h=>by cases h) loanFits_row_tie rfl ⟨rfl,rfl⟩ (by kernel_rfl) rfl
  (fun f fn q L=>by
   obtain rfl:f=9:=Option.some.inj ((show Tryz.prog.funcNamed "cognate/cognatelaw23.LoanFits" =some 9 by kernel_rfl).symm.trans q)|>.symm
   obtain rfl:fn=Tryz.f9:=(Option.some.inj (Tryz.func9.symm.trans L)).symm
   exact⟨by kernel_rfl,fun j t o=>by
    rw[Tryz.params9]at o
    have O:t∈([25,25,9]:List Nat):=by simpa using Array.mem_of_getElem? o
    have R:(([25,25,9]:List Nat).all fun u=>!Tryz.prog.wantsStandIn u)=true:=by kernel_rfl
    exact(show Tryz.prog.wantsStandIn t=false by simpa using List.all_eq_true.1 R t O)⟩)
  (by kernel_rfl)
end Go.Proofs.YteopobecmacgdaaGreatDoor
