/- GenerateWay: the row's statement and its tied card. No conditions. -/
import Derived.Test.YteopobecmacgdaaGreatDoorMM4
import Derived.Test.YteopobecmacgdaaGreatDoorCtGw
import Derived.Test.YteopobecmacgdaaGreatDoorMM10
import Derived.Test.YteopobecmacgdaaGreatDoorTie
import Derived.Test.YteopobecmacgdaaGreatDoorCards
import Derived.ProofKit
import Derived.PinnedBridge
import Derived.Lay
import Derived.Carry
import Derived.SevenTiedAt
import Derived.Deep.DeepHandedRow
set_option linter.unusedSectionVars false
set_option linter.unusedVariables false
set_option linter.unusedSimpArgs false
namespace Go.Proofs.YteopobecmacgdaaGreatDoor
open Go.RowKit Go.ChangeShapes Go.WideShapes Go.ChangeAt Go.Ev
theorem WD:ownKnob Tryz.prog.godebug=none:=by kernel_rfl
theorem R7:(Rows.laid_unicode_utf8_acceptRanges:DataW Unit)=Lib.acceptData:=by kernel_rfl
theorem RO:Rows.laid_unicode_utf8_first=Lib.firstData:=Pinned.utf8First_eq
theorem P3(k:Nat){v0 v1 v2:Value}{W:World}{o:((List (List UInt8)×List ((Int×Int×Int×Unit))×Unit)×Int×Int×List ((List UInt8×List ((Int×List ((Int×List UInt8×List UInt8×Int×Unit))×Unit))×Unit))×List ((List UInt8×Int×List UInt8×Int×Unit))×List ((List UInt8×List ((Int×Int×Int×Unit))×List ((Int×Int×Int×Int×Unit))×(List ((Int×Int×Int×Int×List (Int)×Unit))×Unit)×(List ((Int×Int×Int×Int×List (Int)×Unit))×Unit)×Int×Bool×Unit))×List (List UInt8)×Unit)}(R:ba W (fun _=>False) v0 ((.pair (.pair (.ab .str) (.pair (.ab (.pair (.int .i32) (.pair (.int .u32) (.pair (.int .u32) .unit)))) .unit)) (.pair (.int .u32) (.pair (.int .u32) (.pair (.ab (.pair .str (.pair (.ab (.pair (.int .u64) (.pair (.ab (.pair (.int .u8) (.pair .str (.pair .str (.pair (.int .i64) .unit))))) .unit))) .unit))) (.pair (.ab (.pair .str (.pair (.int .i64) (.pair .str (.pair (.int .i64) .unit))))) (.pair (.ab (.pair .str (.pair (.ab (.pair (.int .i32) (.pair (.int .u32) (.pair (.int .u32) .unit)))) (.pair (.ab (.pair (.int .i32) (.pair (.int .i64) (.pair (.int .u32) (.pair (.int .u32) .unit))))) (.pair (.pair (.ab (.pair (.int .u8) (.pair (.int .i32) (.pair (.int .u32) (.pair (.int .u32) (.pair (.ab (.int .i64)) .unit)))))) .unit) (.pair (.pair (.ab (.pair (.int .u8) (.pair (.int .i32) (.pair (.int .u32) (.pair (.int .u32) (.pair (.ab (.int .i64)) .unit)))))) .unit) (.pair (.int .u8) (.pair .bool .unit)))))))) (.pair (.ab .str) .unit)))))))) o){q:Int}(U:ba W (fun _=>False) v1 ((.int .i64)) q){O:Int}(cS:ba W (fun _=>False) v2 ((.int .i64)) O)(X:oJ k o q O=some true)(Y:aq W):
  Calls Tryz.prog 3 #[v0,v1,v2] W fun e w'=>e=.returned (.bool true)/\Below W.heap.size W w':=by
 have c:=(Jn k).calls W (fun _=>False) [v0,v1,v2] [⟨(.pair (.pair (.ab .str) (.pair (.ab (.pair (.int .i32) (.pair (.int .u32) (.pair (.int .u32) .unit)))) .unit)) (.pair (.int .u32) (.pair (.int .u32) (.pair (.ab (.pair .str (.pair (.ab (.pair (.int .u64) (.pair (.ab (.pair (.int .u8) (.pair .str (.pair .str (.pair (.int .i64) .unit))))) .unit))) .unit))) (.pair (.ab (.pair .str (.pair (.int .i64) (.pair .str (.pair (.int .i64) .unit))))) (.pair (.ab (.pair .str (.pair (.ab (.pair (.int .i32) (.pair (.int .u32) (.pair (.int .u32) .unit)))) (.pair (.ab (.pair (.int .i32) (.pair (.int .i64) (.pair (.int .u32) (.pair (.int .u32) .unit))))) (.pair (.pair (.ab (.pair (.int .u8) (.pair (.int .i32) (.pair (.int .u32) (.pair (.int .u32) (.pair (.ab (.int .i64)) .unit)))))) .unit) (.pair (.pair (.ab (.pair (.int .u8) (.pair (.int .i32) (.pair (.int .u32) (.pair (.int .u32) (.pair (.ab (.int .i64)) .unit)))))) .unit) (.pair (.int .u8) (.pair .bool .unit)))))))) (.pair (.ab .str) .unit))))))),o⟩,⟨(.int .i64),q⟩,⟨(.int .i64),O⟩] [⟨.bool,true⟩] Y (fun _ h=>h.elim) X ⟨R,U,cS,trivial⟩
 refine c.mono ?_
 rintro e w' ⟨v,rfl,Z,la⟩
 have:v=.bool true:=by
  have lb:[v]=[.bool true]:=Z
  simpa using lb
 subst this
 exact⟨rfl,la.below⟩
theorem Rp{v0 v1 v2:Value}{W:World}{o:((List (List UInt8)×List ((Int×Int×Int×Unit))×Unit)×Int×Int×List ((List UInt8×List ((Int×List ((Int×List UInt8×List UInt8×Int×Unit))×Unit))×Unit))×List ((List UInt8×Int×List UInt8×Int×Unit))×List ((List UInt8×List ((Int×Int×Int×Unit))×List ((Int×Int×Int×Int×Unit))×(List ((Int×Int×Int×Int×List (Int)×Unit))×Unit)×(List ((Int×Int×Int×Int×List (Int)×Unit))×Unit)×Int×Bool×Unit))×List (List UInt8)×Unit)}(R:ba W (fun _=>False) v0 ((.pair (.pair (.ab .str) (.pair (.ab (.pair (.int .i32) (.pair (.int .u32) (.pair (.int .u32) .unit)))) .unit)) (.pair (.int .u32) (.pair (.int .u32) (.pair (.ab (.pair .str (.pair (.ab (.pair (.int .u64) (.pair (.ab (.pair (.int .u8) (.pair .str (.pair .str (.pair (.int .i64) .unit))))) .unit))) .unit))) (.pair (.ab (.pair .str (.pair (.int .i64) (.pair .str (.pair (.int .i64) .unit))))) (.pair (.ab (.pair .str (.pair (.ab (.pair (.int .i32) (.pair (.int .u32) (.pair (.int .u32) .unit)))) (.pair (.ab (.pair (.int .i32) (.pair (.int .i64) (.pair (.int .u32) (.pair (.int .u32) .unit))))) (.pair (.pair (.ab (.pair (.int .u8) (.pair (.int .i32) (.pair (.int .u32) (.pair (.int .u32) (.pair (.ab (.int .i64)) .unit)))))) .unit) (.pair (.pair (.ab (.pair (.int .u8) (.pair (.int .i32) (.pair (.int .u32) (.pair (.int .u32) (.pair (.ab (.int .i64)) .unit)))))) .unit) (.pair (.int .u8) (.pair .bool .unit)))))))) (.pair (.ab .str) .unit)))))))) o){q:Int}(U:ba W (fun _=>False) v1 ((.int .i64)) q){O:Int}(cS:ba W (fun _=>False) v2 ((.int .i64)) O)(X:aq W)(Y:gF ((.pair (.pair (.ab .str) (.pair (.ab (.pair (.int .i32) (.pair (.int .u32) (.pair (.int .u32) .unit)))) .unit)) (.pair (.int .u32) (.pair (.int .u32) (.pair (.ab (.pair .str (.pair (.ab (.pair (.int .u64) (.pair (.ab (.pair (.int .u8) (.pair .str (.pair .str (.pair (.int .i64) .unit))))) .unit))) .unit))) (.pair (.ab (.pair .str (.pair (.int .i64) (.pair .str (.pair (.int .i64) .unit))))) (.pair (.ab (.pair .str (.pair (.ab (.pair (.int .i32) (.pair (.int .u32) (.pair (.int .u32) .unit)))) (.pair (.ab (.pair (.int .i32) (.pair (.int .i64) (.pair (.int .u32) (.pair (.int .u32) .unit))))) (.pair (.pair (.ab (.pair (.int .u8) (.pair (.int .i32) (.pair (.int .u32) (.pair (.int .u32) (.pair (.ab (.int .i64)) .unit)))))) .unit) (.pair (.pair (.ab (.pair (.int .u8) (.pair (.int .i32) (.pair (.int .u32) (.pair (.int .u32) (.pair (.ab (.int .i64)) .unit)))))) .unit) (.pair (.int .u8) (.pair .bool .unit)))))))) (.pair (.ab .str) .unit)))))))) o)(aC:gF ((.int .i64)) q)(aA:gF ((.int .i64)) O):
  Calls Tryz.prog 3 #[v0,v1,v2] W fun e w'=>e=.returned (.bool true)/\Below W.heap.size W w':=P3 AW R U cS (R1 _ _ _ Y aC aA) X
set_option maxRecDepth 100000 in
theorem WB(os:Os)(o:Type)(dX:TypeId×Value->o):∃x,DataW.whole dX Tryz.prog ((World.laidAll Tryz.prog os Rows.generateWayUptoRow.laid).forCall (fun _ _=>0) ⟨#[],#[.agg #[.slice none 0 0,.slice none 0 0,.int .u32 0,.int .u32 0,.slice none 0 0,.slice none 0 0,.slice none 0 0,.slice none 0 0],.int .i64 0,.int .i64 0],[]⟩).memory Tryz.f3.params.toList Rows.generateWaySpec.vars false (#[.agg #[.slice none 0 0,.slice none 0 0,.int .u32 0,.int .u32 0,.slice none 0 0,.slice none 0 0,.slice none 0 0,.slice none 0 0],.int .i64 0,.int .i64 0]:Array Value).toList 8=some x/\Rows.uptoSmall o (x.1++x.2.1)=true:=by
 have h:(match DataW.whole dX Tryz.prog ((World.laidAll Tryz.prog os Rows.generateWayUptoRow.laid).forCall (fun _ _=>0) ⟨#[],#[.agg #[.slice none 0 0,.slice none 0 0,.int .u32 0,.int .u32 0,.slice none 0 0,.slice none 0 0,.slice none 0 0,.slice none 0 0],.int .i64 0,.int .i64 0],[]⟩).memory Tryz.f3.params.toList Rows.generateWaySpec.vars false (#[.agg #[.slice none 0 0,.slice none 0 0,.int .u32 0,.int .u32 0,.slice none 0 0,.slice none 0 0,.slice none 0 0,.slice none 0 0],.int .i64 0,.int .i64 0]:Array Value).toList 8 with
  |some x=>Rows.uptoSmall o (x.1++x.2.1)|none=>false)=true:=by kernel_rfl
 split at h
 ·exact⟨_,by assumption,h⟩
 ·cases h
set_option maxRecDepth 100000 in
theorem SW(os:Os)(lh:os.Started)(Y:Type)(dX:TypeId×Value->Y)(F:Stop.Interp):
  ReturnsInHanded {} Tryz.checked os 3 .any ((Rows.OpenSpec.upto Rows.generateWaySpec).preRow dX Tryz.prog Tryz.f3 Rows.generateWayUptoRow.domain false Rows.generateWayUptoRow.laid)
   (((Rows.OpenSpec.upto Rows.generateWaySpec).at F).post dX Tryz.prog Tryz.f3 false true false false):=by
 obtain⟨x,o,li⟩:=WB os Y dX
 have Z:Input.okWideB Tryz.prog ((World.laidAll Tryz.prog os Rows.generateWayUptoRow.laid).forCall (fun _ _=>0) ⟨#[],#[.agg #[.slice none 0 0,.slice none 0 0,.int .u32 0,.int .u32 0,.slice none 0 0,.slice none 0 0,.slice none 0 0,.slice none 0 0],.int .i64 0,.int .i64 0],[]⟩) 3 ⟨#[],#[.agg #[.slice none 0 0,.slice none 0 0,.int .u32 0,.int .u32 0,.slice none 0 0,.slice none 0 0,.slice none 0 0,.slice none 0 0],.int .i64 0,.int .i64 0],[]⟩=true:=by kernel_rfl
 refine returnsInHanded_of_row (C:=Tryz.checked) (s:=Rows.OpenSpec.upto Rows.generateWaySpec) WD lh (by kernel_rfl) Tryz.func3
  ⟨World.laidAll Tryz.prog os Rows.generateWayUptoRow.laid,fun _ _=>0,⟨#[],#[.agg #[.slice none 0 0,.slice none 0 0,.int .u32 0,.int .u32 0,.slice none 0 0,.slice none 0 0,.slice none 0 0,.slice none 0 0],.int .i64 0,.int .i64 0],[]⟩,World.laidAll_os _ _ _,World.shaped_of_ZipB (by kernel_rfl) (by kernel_rfl),(Input.okWide_of_okWideB (base:=0) Z).1,(Input.okWide_of_okWideB Z).2,
   OpenSpec.preRow_of_cond 8 o (by rfl) (fun k lj=>by cases lj;exact li) (by kernel_rfl) (by rw[MakeChecks.laidMetH_plain _ _ _ (by kernel_rfl)];exact laidMet_laidAll _ (by kernel_rfl) (by kernel_rfl)),by
   simp only[Assume.holds]
   exact⟨by simp,by simp,fun _=>Modest.zero,by simp,by simp⟩⟩ ?_
 intro W base args la lk ll lm ln _ _ _ R _ _
 show Calls Tryz.prog 3 args W fun e lb=>∃v,e=.returned v/\Rows.generateWaySpec.post dX Tryz.prog Tryz.f3 false true false false W args v lb
 have lc:DataW.Whole dX Tryz.prog Tryz.f3.params.toList Rows.generateWaySpec.vars false W args.toList la lk ll:=ln
 have q:∀(j:Nat) t v,Tryz.f3.params[j]? =some t->args[j]? =some v->Value.okWide Tryz.prog W .any base t v:=lm
 have ld:=lc
 obtain⟨p,lv,lo,lp,rfl,_,_⟩:=lc
 have U:DataW.TrodAll dX Tryz.prog W 0 (fun _=>true) true Tryz.f3.params.toList args.toList la p:=lo
 rw[Tryz.params3]at U q
 have X:=U.lt
 obtain⟨v0,v1,v2,d0,d1,d2,ny,ar,lw,rfl,rfl,rfl,le,lf,lg⟩:=trodAll_three U
 obtain⟨rfl,rfl⟩:=trodVars_none lp
 obtain⟨lx,lq,lr⟩:=DP (P:=Tryz.prog) (t:=31) (u:=(.pair (.pair (.ab .str) (.pair (.ab (.pair (.int .i32) (.pair (.int .u32) (.pair (.int .u32) .unit)))) .unit)) (.pair (.int .u32) (.pair (.int .u32) (.pair (.ab (.pair .str (.pair (.ab (.pair (.int .u64) (.pair (.ab (.pair (.int .u8) (.pair .str (.pair .str (.pair (.int .i64) .unit))))) .unit))) .unit))) (.pair (.ab (.pair .str (.pair (.int .i64) (.pair .str (.pair (.int .i64) .unit))))) (.pair (.ab (.pair .str (.pair (.ab (.pair (.int .i32) (.pair (.int .u32) (.pair (.int .u32) .unit)))) (.pair (.ab (.pair (.int .i32) (.pair (.int .i64) (.pair (.int .u32) (.pair (.int .u32) .unit))))) (.pair (.pair (.ab (.pair (.int .u8) (.pair (.int .i32) (.pair (.int .u32) (.pair (.int .u32) (.pair (.ab (.int .i64)) .unit)))))) .unit) (.pair (.pair (.ab (.pair (.int .u8) (.pair (.int .i32) (.pair (.int .u32) (.pair (.int .u32) (.pair (.ab (.int .i64)) .unit)))))) .unit) (.pair (.int .u8) (.pair .bool .unit)))))))) (.pair (.ab .str) .unit)))))))) (by kernel_rfl) rfl (q 0 _ v0 rfl rfl) le
 obtain⟨ly,ls,aC⟩:=DP (P:=Tryz.prog) (t:=3) (u:=(.int .i64)) (by kernel_rfl) rfl (q 1 _ v1 rfl rfl) lf
 obtain⟨lz,cS,aA⟩:=DP (P:=Tryz.prog) (t:=3) (u:=(.int .i64)) (by kernel_rfl) rfl (q 2 _ v2 rfl rfl) lg
 simp only[List.append_nil]at ld
 rw[MakeChecks.laidMetH_plain _ _ _ (by kernel_rfl)]at R
 have lt:aq W:=NS (RO▸Lib.laidMet.reads R (.tail _ (.head _))) (R7▸Lib.laidMet.reads R (.head _))
 refine(Rp lq ls cS lt lr aC aA).mono fun e lb ⟨lu,O⟩=>?_
 subst lu
 exact⟨_,rfl,_,_,_,[],_,[],ld,trodAll_mk1 (shut_bool Tryz.underlying4 _),trodAll_mk3 (Below.trod (by kernel_rfl) (by kernel_rfl) (of_decide_eq_true (by kernel_rfl)) le O (fun x o=>X x (by simp[o]))) (Below.trod (by kernel_rfl) (by kernel_rfl) (of_decide_eq_true (by kernel_rfl)) lf O (fun x o=>X x (by simp[o]))) (Below.trod (by kernel_rfl) (by kernel_rfl) (of_decide_eq_true (by kernel_rfl)) lg O (fun x o=>X x (by simp[o]))),rfl,O.frame _,fun h=>by cases h⟩
set_option maxRecDepth 100000 in
set_option maxHeartbeats 40000000 in
theorem Sh:joinedFacts Tryz.prog 3 Tryz.f3 Rows.generateWaySpec Rows.generateWayUptoRow=true:=by
 simp only[joinedFacts,Bool.and_eq_true]
 repeat' apply And.intro
 all_goals (as_aux_lemma=>kernel_rfl)
set_option maxRecDepth 100000 in
theorem generateWay_holds:Rows.GenerateWayUptoSaid:=
 OpenClaim.holds_of_cond 3 Tryz.f3 rfl rfl rfl rfl rfl rfl rfl ⟨rfl,rfl,rfl,rfl,rfl⟩ rfl rfl rfl rfl rfl (by kernel_rfl) Tryz.func3 Sh
  (of_decide_eq_true (by kernel_rfl)) (by unfold Func.isWrapper;first|(rw[if_pos (by decide+kernel)];kernel_rfl)|(rw[if_neg (by decide+kernel)];exact⟨rfl,rfl⟩))
  (fun os o q dX _ F=>by rw[OpenClaim.pre_eq_preRow];exact SW os o q dX F)
theorem generateWay_card_holds:Rows.GenerateWayUptoCardSaid:=
 Claim7.holds_tied_plain_at .later [] [.data,.pinned] true (true, "71b8036f06c464b610c67a51668d563faa5ee9e6c60d1dea641c5cf315011900") true generateWay_holds (fun _ h=>by cases h) (by kernel_rfl) (fun _ h=>by cases h) generateWayUpto_row_tie rfl ⟨rfl,rfl⟩ (by kernel_rfl) rfl
  (fun f fn q O=>by
   obtain rfl:f=3:=Option.some.inj ((show Tryz.prog.funcNamed "cognate/cognatelaw18.GenerateWay" =some 3 by kernel_rfl).symm.trans q)|>.symm
   obtain rfl:fn=Tryz.f3:=(Option.some.inj (Tryz.func3.symm.trans O)).symm
   exact⟨by kernel_rfl,fun j t o=>by
    rw[Tryz.params3]at o
    have R:t∈([31,3,3]:List Nat):=by simpa using Array.mem_of_getElem? o
    have U:(([31,3,3]:List Nat).all fun u=>!Tryz.prog.wantsStandIn u)=true:=by kernel_rfl
    exact(show Tryz.prog.wantsStandIn t=false by simpa using List.all_eq_true.1 U t R)⟩)
  (by kernel_rfl)
end Go.Proofs.YteopobecmacgdaaGreatDoor
