/- LoanNames: the row's statement and its tied card. No conditions. -/
import Derived.Test.YteopobecmacgdaaGreatDoorMM4
import Derived.Test.YteopobecmacgdaaGreatDoorCtLo
import Derived.Test.YteopobecmacgdaaGreatDoorMM9
import Derived.Test.YteopobecmacgdaaGreatDoorTie
import Derived.Test.YteopobecmacgdaaGreatDoorCards
import Derived.ProofKit
import Derived.PinnedBridge
import Derived.Lay
import Derived.Carry
import Derived.SevenTiedAt
set_option linter.unusedSectionVars false
set_option linter.unusedVariables false
set_option linter.unusedSimpArgs false
namespace Go.Proofs.YteopobecmacgdaaGreatDoor
open Go.RowKit Go.ChangeShapes Go.WideShapes Go.ChangeAt Go.Ev
theorem Ky:ownKnob Tryz.prog.godebug=none:=by kernel_rfl
theorem M9:(Rows.laid_unicode_utf8_acceptRanges:DataW Unit)=Lib.acceptData:=by kernel_rfl
theorem TG:Rows.laid_unicode_utf8_first=Lib.firstData:=Pinned.utf8First_eq
theorem OZ(k:Nat)(o:AX k=some true){W:World}(q:am W):
  Calls Tryz.prog 5 #[] W fun e w'=>e=.returned (.bool true)/\Below W.heap.size W w':=by
 have c:=(GG k).calls W (fun _=>False) [] [] [⟨.bool,true⟩] q (fun _ h=>h.elim) o trivial
 refine c.mono ?_
 rintro e w' ⟨v,rfl,L,O⟩
 have:v=.bool true:=by
  have R:[v]=[.bool true]:=L
  simpa using R
 subst this
 exact⟨rfl,O.below⟩
theorem OA{W:World}(o:am W):
  Calls Tryz.prog 5 #[] W fun e w'=>e=.returned (.bool true)/\Below W.heap.size W w':=OZ D8 Nk o
set_option maxRecDepth 100000 in
theorem Mp(os:Os)(O:os.Started)(R:Type)(enc:TypeId×Value->R):
  ReturnsInHanded {} Tryz.checked os 5 .any (fun w args=>(Rows.loanNamesSpec.pre enc Tryz.prog Tryz.f5 [] false w args/\laidMetH Tryz.prog Rows.loanNamesRow.laid w)/\sizedMet enc Tryz.prog Tryz.f5 (OpenSpec.ofChange Rows.loanNamesSpec) false w args)
   (Rows.loanNamesSpec.post enc Tryz.prog Tryz.f5 false true false false):=by
 refine returnsInHanded_of_change_and (C:=Tryz.checked) (X:=fun w _=>laidMetH Tryz.prog Rows.loanNamesRow.laid w) (fun _ _ _ U h=>h.of_heap U) Ky O (by kernel_rfl) Tryz.func5
  (ChangeSpec.witness_shaped (enc:=enc) (C:=Tryz.checked) (os:=os) (X:=fun w _=>laidMetH Tryz.prog Rows.loanNamesRow.laid w) false (World.laidAll Tryz.prog os Rows.loanNamesRow.laid) #[] 8 (World.laidAll_os _ _ _)
   (World.shaped_of_ZipB (by kernel_rfl) (by kernel_rfl)) (by kernel_rfl) (by kernel_rfl) (by kernel_rfl)
   (by rw[MakeChecks.laidMetH_plain _ _ _ (by kernel_rfl)];exact laidMet_laidAll _ (by kernel_rfl) (by kernel_rfl))) ?_
 intro W V args Y lh li Z L _ _ o _
 have la:∀(j:Nat) t v,Tryz.f5.params[j]? =some t->args[j]? =some v->Value.okWide Tryz.prog W .any V t v:=Z
 have lb:=L
 obtain⟨p,lj,lc,ld,rfl,_,_⟩:=L
 have q:DataW.TrodAll enc Tryz.prog W 0 (fun _=>true) true Tryz.f5.params.toList args.toList Y p:=lc
 rw[Tryz.params5]at q la
 have lk:=q.lt
 obtain⟨rfl,rfl,rfl⟩:=trodAll_none q
 obtain⟨rfl,rfl⟩:=trodVars_none ld
 rw[MakeChecks.laidMetH_plain _ _ _ (by kernel_rfl)]at o
 have le:am W:=PH (TG▸Lib.laidMet.reads o (.tail _ (.head _))) (M9▸Lib.laidMet.reads o (.head _))
 refine(OA le).mono fun e ll ⟨lf,lg⟩=>?_
 subst lf
 exact⟨_,rfl,_,_,_,[],_,[],lb,trodAll_mk1 (shut_bool Tryz.underlying4 _),trodAll_mk0,rfl,lg.frame _,fun h=>by cases h⟩
theorem loanNames_holds:Rows.LoanNamesSaid:=
 OpenClaim.holds_of_wide 5 Tryz.f5 rfl rfl rfl rfl rfl rfl rfl ⟨rfl,rfl,rfl,rfl,rfl⟩ rfl rfl rfl rfl rfl (by kernel_rfl) Tryz.func5 (by kernel_rfl)
  (of_decide_eq_true (by kernel_rfl)) (by unfold Func.isWrapper;first|(rw[if_pos (by decide+kernel)];kernel_rfl)|(rw[if_neg (by decide+kernel)];exact⟨rfl,rfl⟩))
  (fun os o q enc _=>Mp os o q enc)
theorem loanNames_card_holds:Rows.LoanNamesCardSaid:=
 Claim7.holds_tied_plain_at .later [] [.data,.pinned] true (true, "71b8036f06c464b610c67a51668d563faa5ee9e6c60d1dea641c5cf315011900") true loanNames_holds (fun _ h=>by cases h) (by kernel_rfl) (fun _ h=>by cases h) loanNames_row_tie rfl ⟨rfl,rfl⟩ (by kernel_rfl) rfl
  (fun f fn q L=>by
   obtain rfl:f=5:=Option.some.inj ((show Tryz.prog.funcNamed "cognate/cognatelaw23.LoanNames" =some 5 by kernel_rfl).symm.trans q)|>.symm
   obtain rfl:fn=Tryz.f5:=(Option.some.inj (Tryz.func5.symm.trans L)).symm
   exact⟨by kernel_rfl,fun j t o=>by
    rw[Tryz.params5]at o
    have O:t∈([]:List Nat):=by simpa using Array.mem_of_getElem? o
    have R:(([]:List Nat).all fun u=>!Tryz.prog.wantsStandIn u)=true:=by kernel_rfl
    exact(show Tryz.prog.wantsStandIn t=false by simpa using List.all_eq_true.1 R t O)⟩)
  (by kernel_rfl)
end Go.Proofs.YteopobecmacgdaaGreatDoor
