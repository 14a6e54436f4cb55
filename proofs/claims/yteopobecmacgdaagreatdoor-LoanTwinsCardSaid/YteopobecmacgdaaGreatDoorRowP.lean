/- LoanTwins: the row's statement and its tied card. No conditions. -/
import Derived.Test.YteopobecmacgdaaGreatDoorMM4
import Derived.Test.YteopobecmacgdaaGreatDoorCtLo
import Derived.Test.YteopobecmacgdaaGreatDoorMM11
import Derived.Test.YteopobecmacgdaaGreatDoorTie
import Derived.Test.YteopobecmacgdaaGreatDoorCards
import Derived.ProofKit
import Derived.PinnedBridge
import Derived.Lay
import Derived.Carry
import Derived.SevenTiedAt
set_option linter.unusedSectionVars false
set_option linter.unusedVariables false
set_option linter.unusedSimpArgs false
namespace Go.Proofs.YteopobecmacgdaaGreatDoor
open Go.RowKit Go.ChangeShapes Go.WideShapes Go.ChangeAt Go.Ev
theorem abr:ownKnob Tryz.prog.godebug=none:=by kernel_rfl
theorem aaD:(Rows.laid_unicode_utf8_acceptRanges:DataW Unit)=Lib.acceptData:=by kernel_rfl
theorem XT:Rows.laid_unicode_utf8_first=Lib.firstData:=Pinned.utf8First_eq
theorem Xk(k:Nat){v0 v1:Value}{W:World}{o:((List (List UInt8)×List ((Int×Int×Int×Unit))×Unit)×Int×Int×List ((List UInt8×List ((Int×List ((Int×List UInt8×List UInt8×Int×Unit))×Unit))×Unit))×List ((List UInt8×Int×List UInt8×Int×Unit))×List ((List UInt8×List ((Int×Int×Int×Unit))×List ((Int×Int×Int×Int×Unit))×(List ((Int×Int×Int×Int×List (Int)×Unit))×Unit)×(List ((Int×Int×Int×Int×List (Int)×Unit))×Unit)×Int×Bool×Unit))×List (List UInt8)×Unit)}(O:bf W (fun _=>False) v0 ((.pair (.pair (.ab .str) (.pair (.ab (.pair (.int .i32) (.pair (.int .u32) (.pair (.int .u32) .unit)))) .unit)) (.pair (.int .u32) (.pair (.int .u32) (.pair (.ab (.pair .str (.pair (.ab (.pair (.int .u64) (.pair (.ab (.pair (.int .u8) (.pair .str (.pair .str (.pair (.int .i64) .unit))))) .unit))) .unit))) (.pair (.ab (.pair .str (.pair (.int .i64) (.pair .str (.pair (.int .i64) .unit))))) (.pair (.ab (.pair .str (.pair (.ab (.pair (.int .i32) (.pair (.int .u32) (.pair (.int .u32) .unit)))) (.pair (.ab (.pair (.int .i32) (.pair (.int .i64) (.pair (.int .u32) (.pair (.int .u32) .unit))))) (.pair (.pair (.ab (.pair (.int .u8) (.pair (.int .i32) (.pair (.int .u32) (.pair (.int .u32) (.pair (.ab (.int .i64)) .unit)))))) .unit) (.pair (.pair (.ab (.pair (.int .u8) (.pair (.int .i32) (.pair (.int .u32) (.pair (.int .u32) (.pair (.ab (.int .i64)) .unit)))))) .unit) (.pair (.int .u8) (.pair .bool .unit)))))))) (.pair (.ab .str) .unit)))))))) o){q:List UInt8}(R:bf W (fun _=>False) v1 (.str) q)(U:u6 k o q=some true)(Y:am W):
  Calls Tryz.prog 8 #[v0,v1] W fun e w'=>e=.returned (.bool true)/\Below W.heap.size W w':=by
 have c:=(Jc k).calls W (fun _=>False) [v0,v1] [⟨(.pair (.pair (.ab .str) (.pair (.ab (.pair (.int .i32) (.pair (.int .u32) (.pair (.int .u32) .unit)))) .unit)) (.pair (.int .u32) (.pair (.int .u32) (.pair (.ab (.pair .str (.pair (.ab (.pair (.int .u64) (.pair (.ab (.pair (.int .u8) (.pair .str (.pair .str (.pair (.int .i64) .unit))))) .unit))) .unit))) (.pair (.ab (.pair .str (.pair (.int .i64) (.pair .str (.pair (.int .i64) .unit))))) (.pair (.ab (.pair .str (.pair (.ab (.pair (.int .i32) (.pair (.int .u32) (.pair (.int .u32) .unit)))) (.pair (.ab (.pair (.int .i32) (.pair (.int .i64) (.pair (.int .u32) (.pair (.int .u32) .unit))))) (.pair (.pair (.ab (.pair (.int .u8) (.pair (.int .i32) (.pair (.int .u32) (.pair (.int .u32) (.pair (.ab (.int .i64)) .unit)))))) .unit) (.pair (.pair (.ab (.pair (.int .u8) (.pair (.int .i32) (.pair (.int .u32) (.pair (.int .u32) (.pair (.ab (.int .i64)) .unit)))))) .unit) (.pair (.int .u8) (.pair .bool .unit)))))))) (.pair (.ab .str) .unit))))))),o⟩,⟨.str,q⟩] [⟨.bool,true⟩] Y (fun _ h=>h.elim) U ⟨O,R,trivial⟩
 refine c.mono ?_
 rintro e w' ⟨v,rfl,Z,la⟩
 have:v=.bool true:=by
  have lb:[v]=[.bool true]:=Z
  simpa using lb
 subst this
 exact⟨rfl,la.below⟩
theorem Ws{v0 v1:Value}{W:World}{o:((List (List UInt8)×List ((Int×Int×Int×Unit))×Unit)×Int×Int×List ((List UInt8×List ((Int×List ((Int×List UInt8×List UInt8×Int×Unit))×Unit))×Unit))×List ((List UInt8×Int×List UInt8×Int×Unit))×List ((List UInt8×List ((Int×Int×Int×Unit))×List ((Int×Int×Int×Int×Unit))×(List ((Int×Int×Int×Int×List (Int)×Unit))×Unit)×(List ((Int×Int×Int×Int×List (Int)×Unit))×Unit)×Int×Bool×Unit))×List (List UInt8)×Unit)}(O:bf W (fun _=>False) v0 ((.pair (.pair (.ab .str) (.pair (.ab (.pair (.int .i32) (.pair (.int .u32) (.pair (.int .u32) .unit)))) .unit)) (.pair (.int .u32) (.pair (.int .u32) (.pair (.ab (.pair .str (.pair (.ab (.pair (.int .u64) (.pair (.ab (.pair (.int .u8) (.pair .str (.pair .str (.pair (.int .i64) .unit))))) .unit))) .unit))) (.pair (.ab (.pair .str (.pair (.int .i64) (.pair .str (.pair (.int .i64) .unit))))) (.pair (.ab (.pair .str (.pair (.ab (.pair (.int .i32) (.pair (.int .u32) (.pair (.int .u32) .unit)))) (.pair (.ab (.pair (.int .i32) (.pair (.int .i64) (.pair (.int .u32) (.pair (.int .u32) .unit))))) (.pair (.pair (.ab (.pair (.int .u8) (.pair (.int .i32) (.pair (.int .u32) (.pair (.int .u32) (.pair (.ab (.int .i64)) .unit)))))) .unit) (.pair (.pair (.ab (.pair (.int .u8) (.pair (.int .i32) (.pair (.int .u32) (.pair (.int .u32) (.pair (.ab (.int .i64)) .unit)))))) .unit) (.pair (.int .u8) (.pair .bool .unit)))))))) (.pair (.ab .str) .unit)))))))) o){q:List UInt8}(R:bf W (fun _=>False) v1 (.str) q)(U:am W)(Y:ip ((.pair (.pair (.ab .str) (.pair (.ab (.pair (.int .i32) (.pair (.int .u32) (.pair (.int .u32) .unit)))) .unit)) (.pair (.int .u32) (.pair (.int .u32) (.pair (.ab (.pair .str (.pair (.ab (.pair (.int .u64) (.pair (.ab (.pair (.int .u8) (.pair .str (.pair .str (.pair (.int .i64) .unit))))) .unit))) .unit))) (.pair (.ab (.pair .str (.pair (.int .i64) (.pair .str (.pair (.int .i64) .unit))))) (.pair (.ab (.pair .str (.pair (.ab (.pair (.int .i32) (.pair (.int .u32) (.pair (.int .u32) .unit)))) (.pair (.ab (.pair (.int .i32) (.pair (.int .i64) (.pair (.int .u32) (.pair (.int .u32) .unit))))) (.pair (.pair (.ab (.pair (.int .u8) (.pair (.int .i32) (.pair (.int .u32) (.pair (.int .u32) (.pair (.ab (.int .i64)) .unit)))))) .unit) (.pair (.pair (.ab (.pair (.int .u8) (.pair (.int .i32) (.pair (.int .u32) (.pair (.int .u32) (.pair (.ab (.int .i64)) .unit)))))) .unit) (.pair (.int .u8) (.pair .bool .unit)))))))) (.pair (.ab .str) .unit)))))))) o)(Z:ip (.str) q):
  Calls Tryz.prog 8 #[v0,v1] W fun e w'=>e=.returned (.bool true)/\Below W.heap.size W w':=Xk Pb O R (aay _ _ Y Z) U
set_option maxRecDepth 100000 in
theorem YI(os:Os)(ld:os.Started)(le:Type)(enc:TypeId×Value->le):
  ReturnsInHanded {} Tryz.checked os 8 .any (fun w args=>(Rows.loanTwinsSpec.pre enc Tryz.prog Tryz.f8 [] false w args/\laidMetH Tryz.prog Rows.loanTwinsRow.laid w)/\sizedMet enc Tryz.prog Tryz.f8 (OpenSpec.ofChange Rows.loanTwinsSpec) false w args)
   (Rows.loanTwinsSpec.post enc Tryz.prog Tryz.f8 false true false false):=by
 refine returnsInHanded_of_change_and (C:=Tryz.checked) (X:=fun w _=>laidMetH Tryz.prog Rows.loanTwinsRow.laid w) (fun _ _ _ lf h=>h.of_heap lf) abr ld (by kernel_rfl) Tryz.func8
  (ChangeSpec.witness_shaped (enc:=enc) (C:=Tryz.checked) (os:=os) (X:=fun w _=>laidMetH Tryz.prog Rows.loanTwinsRow.laid w) false (World.laidAll Tryz.prog os Rows.loanTwinsRow.laid) #[.agg #[.slice none 0 0,.slice none 0 0,.int .u32 0,.int .u32 0,.slice none 0 0,.slice none 0 0,.slice none 0 0,.slice none 0 0],.string ⟨#[]⟩] 8 (World.laidAll_os _ _ _)
   (World.shaped_of_ZipB (by kernel_rfl) (by kernel_rfl)) (by kernel_rfl) (by kernel_rfl) (by kernel_rfl)
   (by rw[MakeChecks.laidMetH_plain _ _ _ (by kernel_rfl)];exact laidMet_laidAll _ (by kernel_rfl) (by kernel_rfl))) ?_
 intro W lg args lh lr ls li Y _ _ o _
 have q:∀(j:Nat) t v,Tryz.f8.params[j]? =some t->args[j]? =some v->Value.okWide Tryz.prog W .any lg t v:=li
 have Z:=Y
 obtain⟨p,lt,lj,lk,rfl,_,_⟩:=Y
 have O:DataW.TrodAll enc Tryz.prog W 0 (fun _=>true) true Tryz.f8.params.toList args.toList lh p:=lj
 rw[Tryz.params8]at O q
 have la:=O.lt
 obtain⟨v0,v1,d0,d1,lu,lv,rfl,rfl,rfl,lb,lc⟩:=trodAll_two O
 obtain⟨rfl,rfl⟩:=trodVars_none lk
 obtain⟨lw,ll,lm⟩:=NJ (P:=Tryz.prog) (t:=31) (u:=(.pair (.pair (.ab .str) (.pair (.ab (.pair (.int .i32) (.pair (.int .u32) (.pair (.int .u32) .unit)))) .unit)) (.pair (.int .u32) (.pair (.int .u32) (.pair (.ab (.pair .str (.pair (.ab (.pair (.int .u64) (.pair (.ab (.pair (.int .u8) (.pair .str (.pair .str (.pair (.int .i64) .unit))))) .unit))) .unit))) (.pair (.ab (.pair .str (.pair (.int .i64) (.pair .str (.pair (.int .i64) .unit))))) (.pair (.ab (.pair .str (.pair (.ab (.pair (.int .i32) (.pair (.int .u32) (.pair (.int .u32) .unit)))) (.pair (.ab (.pair (.int .i32) (.pair (.int .i64) (.pair (.int .u32) (.pair (.int .u32) .unit))))) (.pair (.pair (.ab (.pair (.int .u8) (.pair (.int .i32) (.pair (.int .u32) (.pair (.int .u32) (.pair (.ab (.int .i64)) .unit)))))) .unit) (.pair (.pair (.ab (.pair (.int .u8) (.pair (.int .i32) (.pair (.int .u32) (.pair (.int .u32) (.pair (.ab (.int .i64)) .unit)))))) .unit) (.pair (.int .u8) (.pair .bool .unit)))))))) (.pair (.ab .str) .unit)))))))) (by kernel_rfl) rfl (q 0 _ v0 rfl rfl) lb
 obtain⟨lx,ln,lo⟩:=NJ (P:=Tryz.prog) (t:=9) (u:=.str) (by kernel_rfl) rfl (q 1 _ v1 rfl rfl) lc
 simp only[List.append_nil]at Z
 rw[MakeChecks.laidMetH_plain _ _ _ (by kernel_rfl)]at o
 have lp:am W:=Xs (XT▸Lib.laidMet.reads o (.tail _ (.head _))) (aaD▸Lib.laidMet.reads o (.head _))
 refine(Ws ll ln lp lm lo).mono fun e ly ⟨lq,R⟩=>?_
 subst lq
 exact⟨_,rfl,_,_,_,[],_,[],Z,trodAll_mk1 (shut_bool Tryz.underlying4 _),trodAll_mk2 (Below.trod (by kernel_rfl) (by kernel_rfl) (of_decide_eq_true (by kernel_rfl)) lb R (fun x U=>la x (by simp[U]))) (Below.trod (by kernel_rfl) (by kernel_rfl) (of_decide_eq_true (by kernel_rfl)) lc R (fun x U=>la x (by simp[U]))),rfl,R.frame _,fun h=>by cases h⟩
set_option maxRecDepth 100000 in
set_option maxHeartbeats 40000000 in
theorem Y3:joinedFacts Tryz.prog 8 Tryz.f8 Rows.loanTwinsSpec Rows.loanTwinsRow=true:=by
 simp only[joinedFacts,Bool.and_eq_true]
 repeat' apply And.intro
 all_goals (as_aux_lemma=>kernel_rfl)
theorem loanTwins_holds:Rows.LoanTwinsSaid:=
 OpenClaim.holds_of_wide 8 Tryz.f8 rfl rfl rfl rfl rfl rfl rfl ⟨rfl,rfl,rfl,rfl,rfl⟩ rfl rfl rfl rfl rfl (by kernel_rfl) Tryz.func8 Y3
  (of_decide_eq_true (by kernel_rfl)) (by unfold Func.isWrapper;first|(rw[if_pos (by decide+kernel)];kernel_rfl)|(rw[if_neg (by decide+kernel)];exact⟨rfl,rfl⟩))
  (fun os o q enc _=>YI os o q enc)
theorem loanTwins_card_holds:Rows.LoanTwinsCardSaid:=
 Claim7.holds_tied_plain_at .later [] [.data,.pinned] true (true, "71b8036f06c464b610c67a51668d563faa5ee9e6c60d1dea641c5cf315011900") true loanTwins_holds (fun _ h=>by cases h) (by kernel_rfl) (fun _ h=>by cases h) loanTwins_row_tie rfl ⟨rfl,rfl⟩ (by kernel_rfl) rfl
  (fun f fn q O=>by
   obtain rfl:f=8:=Option.some.inj ((show Tryz.prog.funcNamed "cognate/cognatelaw23.LoanTwins" =some 8 by kernel_rfl).symm.trans q)|>.symm
   obtain rfl:fn=Tryz.f8:=(Option.some.inj (Tryz.func8.symm.trans O)).symm
   exact⟨by kernel_rfl,fun j t o=>by
    rw[Tryz.params8]at o
    have R:t∈([31,9]:List Nat):=by simpa using Array.mem_of_getElem? o
    have U:(([31,9]:List Nat).all fun u=>!Tryz.prog.wantsStandIn u)=true:=by kernel_rfl
    exact(show Tryz.prog.wantsStandIn t=false by simpa using List.all_eq_true.1 U t R)⟩)
  (by kernel_rfl)
end Go.Proofs.YteopobecmacgdaaGreatDoor
