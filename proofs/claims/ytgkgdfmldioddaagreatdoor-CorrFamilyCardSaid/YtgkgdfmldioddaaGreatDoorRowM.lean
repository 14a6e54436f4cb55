/- CorrFamily: the row's statement and its tied card. No conditions. -/
import Derived.Test.YtgkgdfmldioddaaGreatDoorMM4
import Derived.Test.YtgkgdfmldioddaaGreatDoorCtCf
import Derived.Test.YtgkgdfmldioddaaGreatDoorMM10
import Derived.Test.YtgkgdfmldioddaaGreatDoorTie
import Derived.Test.YtgkgdfmldioddaaGreatDoorCards
import Derived.ProofKit
import Derived.PinnedBridge
import Derived.Lay
import Derived.Carry
import Derived.SevenTiedAt
set_option linter.unusedSectionVars false
set_option linter.unusedVariables false
set_option linter.unusedSimpArgs false
namespace Go.Proofs.YtgkgdfmldioddaaGreatDoor
open Go.RowKit Go.ChangeShapes Go.WideShapes Go.ChangeAt Go.Ev
theorem Nq:ownKnob Tryz.prog.godebug=none:=by kernel_rfl
theorem Rw:(Rows.laid_unicode_utf8_acceptRanges:DataW Unit)=Lib.acceptData:=by kernel_rfl
theorem V2:Rows.laid_unicode_utf8_first=Lib.firstData:=Pinned.utf8First_eq
theorem PR{v0 v1 v2:Value}{W:World}{o:((List (List UInt8)×List ((Int×Int×Int×Unit))×Unit)×List ((List UInt8×Int×List ((List UInt8×List ((Int×Int×Int×Unit))×List ((Int×Int×Int×Int×Unit))×(List ((Int×Int×Int×Int×List (Int)×Unit))×Unit)×(List ((Int×Int×Int×Int×List (Int)×Unit))×Unit)×Int×Bool×Unit))×Unit))×Unit)}(Y:a8 W (fun _=>False) v0 ((.pair (.pair (.ab .str) (.pair (.ab (.pair (.int .i32) (.pair (.int .u32) (.pair (.int .u32) .unit)))) .unit)) (.pair (.ab (.pair .str (.pair (.int .i64) (.pair (.ab (.pair .str (.pair (.ab (.pair (.int .i32) (.pair (.int .u32) (.pair (.int .u32) .unit)))) (.pair (.ab (.pair (.int .i32) (.pair (.int .i64) (.pair (.int .u32) (.pair (.int .u32) .unit))))) (.pair (.pair (.ab (.pair (.int .u8) (.pair (.int .i32) (.pair (.int .u32) (.pair (.int .u32) (.pair (.ab (.int .i64)) .unit)))))) .unit) (.pair (.pair (.ab (.pair (.int .u8) (.pair (.int .i32) (.pair (.int .u32) (.pair (.int .u32) (.pair (.ab (.int .i64)) .unit)))))) .unit) (.pair (.int .u8) (.pair .bool .unit)))))))) .unit)))) .unit))) o){O:Int}(Z:a8 W (fun _=>False) v1 ((.int .i64)) O){U:List UInt8}(cY:a8 W (fun _=>False) v2 (.str) U)(la:an W):
  Calls Tryz.prog 5 #[v0,v1,v2] W fun e w'=>e=.returned (.bool true)/\Below W.heap.size W w':=by
 have c:=(Gi LQ).calls W (fun _=>False) [v0,v1,v2] [⟨(.pair (.pair (.ab .str) (.pair (.ab (.pair (.int .i32) (.pair (.int .u32) (.pair (.int .u32) .unit)))) .unit)) (.pair (.ab (.pair .str (.pair (.int .i64) (.pair (.ab (.pair .str (.pair (.ab (.pair (.int .i32) (.pair (.int .u32) (.pair (.int .u32) .unit)))) (.pair (.ab (.pair (.int .i32) (.pair (.int .i64) (.pair (.int .u32) (.pair (.int .u32) .unit))))) (.pair (.pair (.ab (.pair (.int .u8) (.pair (.int .i32) (.pair (.int .u32) (.pair (.int .u32) (.pair (.ab (.int .i64)) .unit)))))) .unit) (.pair (.pair (.ab (.pair (.int .u8) (.pair (.int .i32) (.pair (.int .u32) (.pair (.int .u32) (.pair (.ab (.int .i64)) .unit)))))) .unit) (.pair (.int .u8) (.pair .bool .unit)))))))) .unit)))) .unit)),o⟩,⟨(.int .i64),O⟩,⟨.str,U⟩] [⟨.bool,true⟩] la (fun _ h=>h.elim) (S4 _ _ _) ⟨Y,Z,cY,trivial⟩
 refine c.mono ?_
 rintro e w' ⟨v,rfl,lc,ld⟩
 have:v=.bool true:=by
  have lf:[v]=[.bool true]:=lc
  simpa using lf
 subst this
 exact⟨rfl,ld.below⟩
set_option maxRecDepth 100000 in
theorem U7(os:Os)(lh:os.Started)(li:Type)(enc:TypeId×Value->li):
  ReturnsInHanded {} Tryz.checked os 5 .any (fun w args=>(Rows.corrFamilySpec.pre enc Tryz.prog Tryz.f5 [] false w args/\laidMetH Tryz.prog Rows.corrFamilyRow.laid w)/\sizedMet enc Tryz.prog Tryz.f5 (OpenSpec.ofChange Rows.corrFamilySpec) false w args)
   (Rows.corrFamilySpec.post enc Tryz.prog Tryz.f5 false true false false):=by
 refine returnsInHanded_of_change_and (C:=Tryz.checked) (X:=fun w _=>laidMetH Tryz.prog Rows.corrFamilyRow.laid w) (fun _ _ _ lj h=>h.of_heap lj) Nq lh (by kernel_rfl) Tryz.func5
  (ChangeSpec.witness_shaped (enc:=enc) (C:=Tryz.checked) (os:=os) (X:=fun w _=>laidMetH Tryz.prog Rows.corrFamilyRow.laid w) false (World.laidAll Tryz.prog os Rows.corrFamilyRow.laid) #[.agg #[.slice none 0 0,.slice none 0 0,.slice none 0 0],.int .i64 0,.string ⟨#[]⟩] 8 (World.laidAll_os _ _ _)
   (World.shaped_of_ZipB (by kernel_rfl) (by kernel_rfl)) (by kernel_rfl) (by kernel_rfl) (by kernel_rfl)
   (by rw[MakeChecks.laidMetH_plain _ _ _ (by kernel_rfl)];exact laidMet_laidAll _ (by kernel_rfl) (by kernel_rfl))) ?_
 intro W base args lk lt lu ll lc _ _ Y _
 have O:∀(j:Nat) t v,Tryz.f5.params[j]? =some t->args[j]? =some v->Value.okWide Tryz.prog W .any base t v:=ll
 have ld:=lc
 obtain⟨p,q,lm,ln,rfl,_,_⟩:=lc
 have Z:DataW.TrodAll enc Tryz.prog W 0 (fun _=>true) true Tryz.f5.params.toList args.toList lk p:=lm
 rw[Tryz.params5]at Z O
 have la:=Z.lt
 obtain⟨v0,v1,v2,d0,d1,d2,lv,lw,lx,rfl,rfl,rfl,lf,h1,lg⟩:=trodAll_three Z
 obtain⟨rfl,rfl⟩:=trodVars_none ln
 obtain⟨ly,lo,lz⟩:=A9 (P:=Tryz.prog) (t:=28) (u:=(.pair (.pair (.ab .str) (.pair (.ab (.pair (.int .i32) (.pair (.int .u32) (.pair (.int .u32) .unit)))) .unit)) (.pair (.ab (.pair .str (.pair (.int .i64) (.pair (.ab (.pair .str (.pair (.ab (.pair (.int .i32) (.pair (.int .u32) (.pair (.int .u32) .unit)))) (.pair (.ab (.pair (.int .i32) (.pair (.int .i64) (.pair (.int .u32) (.pair (.int .u32) .unit))))) (.pair (.pair (.ab (.pair (.int .u8) (.pair (.int .i32) (.pair (.int .u32) (.pair (.int .u32) (.pair (.ab (.int .i64)) .unit)))))) .unit) (.pair (.pair (.ab (.pair (.int .u8) (.pair (.int .i32) (.pair (.int .u32) (.pair (.int .u32) (.pair (.ab (.int .i64)) .unit)))))) .unit) (.pair (.int .u8) (.pair .bool .unit)))))))) .unit)))) .unit))) (by kernel_rfl) rfl (O 0 _ v0 rfl rfl) lf
 obtain⟨lA,lp,lB⟩:=A9 (P:=Tryz.prog) (t:=3) (u:=(.int .i64)) (by kernel_rfl) rfl (O 1 _ v1 rfl rfl) h1
 obtain⟨lC,cY,lD⟩:=A9 (P:=Tryz.prog) (t:=9) (u:=.str) (by kernel_rfl) rfl (O 2 _ v2 rfl rfl) lg
 simp only[List.append_nil]at ld
 rw[MakeChecks.laidMetH_plain _ _ _ (by kernel_rfl)]at Y
 have lq:an W:=Vw (V2▸Lib.laidMet.reads Y (.tail _ (.head _))) (Rw▸Lib.laidMet.reads Y (.head _))
 refine(PR lo lp cY lq).mono fun e lE ⟨lr,U⟩=>?_
 subst lr
 exact⟨_,rfl,_,_,_,[],_,[],ld,trodAll_mk1 (shut_bool Tryz.underlying4 _),trodAll_mk3 (Below.trod (by kernel_rfl) (by kernel_rfl) (of_decide_eq_true (by kernel_rfl)) lf U (fun x o=>la x (by simp[o]))) (Below.trod (by kernel_rfl) (by kernel_rfl) (of_decide_eq_true (by kernel_rfl)) h1 U (fun x o=>la x (by simp[o]))) (Below.trod (by kernel_rfl) (by kernel_rfl) (of_decide_eq_true (by kernel_rfl)) lg U (fun x o=>la x (by simp[o]))),rfl,U.frame _,fun h=>by cases h⟩
theorem corrFamily_holds:Rows.CorrFamilySaid:=
 OpenClaim.holds_of_wide 5 Tryz.f5 rfl rfl rfl rfl rfl rfl rfl ⟨rfl,rfl,rfl,rfl,rfl⟩ rfl rfl rfl rfl rfl (by kernel_rfl) Tryz.func5 (by kernel_rfl)
  (of_decide_eq_true (by kernel_rfl)) (by unfold Func.isWrapper;first|(rw[if_pos (by decide+kernel)];kernel_rfl)|(rw[if_neg (by decide+kernel)];exact⟨rfl,rfl⟩))
  (fun os o O enc _=>U7 os o O enc)
theorem corrFamily_card_holds:Rows.CorrFamilyCardSaid:=
 Claim7.holds_tied_plain_at .later [] [.data,.pinned] true (true, "495827b67510578178ea6517fed22a26021320efd13842912d6f770af4114013") false corrFamily_holds (fun _ h=>by cases h) (by kernel_rfl) (fun _ h=>by cases h) corrFamily_row_tie rfl ⟨rfl,rfl⟩ (by kernel_rfl) rfl
  (fun f fn O U=>by
   obtain rfl:f=5:=Option.some.inj ((show Tryz.prog.funcNamed "cognate/cognatelaw28.CorrFamily" =some 5 by kernel_rfl).symm.trans O)|>.symm
   obtain rfl:fn=Tryz.f5:=(Option.some.inj (Tryz.func5.symm.trans U)).symm
   exact⟨by kernel_rfl,fun j t o=>by
    rw[Tryz.params5]at o
    have W:t∈([28,3,9]:List Nat):=by simpa using Array.mem_of_getElem? o
    have Y:(([28,3,9]:List Nat).all fun u=>!Tryz.prog.wantsStandIn u)=true:=by kernel_rfl
    exact(show Tryz.prog.wantsStandIn t=false by simpa using List.all_eq_true.1 Y t W)⟩)
  (by kernel_rfl)
end Go.Proofs.YtgkgdfmldioddaaGreatDoor
