/- Contracts, by program. -/
import Derived.Test.YtgkgdfmldioddaaGreatDoorProg
import Derived.Test.YtgkgdfmldioddaaGreatDoorMM6
import Derived.Test.YtgkgdfmldioddaaGreatDoorMM8
import Derived.Test.YtgkgdfmldioddaaGreatDoorMM9
import Derived.Test.YtgkgdfmldioddaaGreatDoorCtCfP1
import Derived.Test.YtgkgdfmldioddaaGreatDoorCtCfP3
import Derived.Test.YtgkgdfmldioddaaGreatDoorCtCfP4
import Derived.Test.YtgkgdfmldioddaaGreatDoorCtCfP6
import Derived.Test.YtgkgdfmldioddaaGreatDoorCtCfP8
import Derived.KernelRfl
import Derived.Test.YtgkgdfmldioddaaGreatDoorTyA
set_option linter.unusedSectionVars false
set_option linter.unusedVariables false
set_option linter.unusedSimpArgs false
namespace Go.Ev
open Go Go.Proofs
set_option linter.unusedVariables false
set_option maxRecDepth 100000
noncomputable def JZ(k:Nat):cJ aN aN where
 n:=8
 S:=fun z=>⟨[(0,.val aq (z))],[],[]⟩
 be:=fun z y=>⟨[],[],[(3500001,⟨166,ip,(y)⟩)]⟩
 ar:=fun z y=>[.row 3500001]
 rel:=fun z y=>ql k (z)=some y
noncomputable def UA(k:Nat):Env:=cy Tryz.prog an 8 []
theorem RR(k:Nat):cF Tryz.prog an 171 (JZ k):=by
 refine oL (fn:=Tryz.f171) Tryz.func171 (by kernel_rfl) rfl Tryz.ntmps171 ?_
 rintro cx Z la lc U W h
 have o:br (UA k) cx:=kb Z la lc
 replace h:ql k U=some W:=h
 unfold ql at h
 refine ay (aK (bl o [0] [] [] (orc:=[]) (by kernel_rfl) .n (ax (ay (ay (aK (fE o 1 [0,3] [] [] (orc:=[]) (by kernel_rfl) .n (AS o (d:=4) (u:=ip) (xs:=U) (by kernel_rfl) (by kernel_rfl) fun ld lf=>(jg (ax (da (b:=ld) (by kernel_rfl) (fun Y=>?_) (fun Y=>?_))))))))))))
 ·replace h:(some ([]:List av))=some W:=by
   rw[lf Y]at h
   exact h
  refine ay (aK (bl o [2] [] [2] (orc:=[]) (by kernel_rfl) .n (ax (ep (cQ ?_)))))
  replace h:=Option.some.inj h
  subst h
  exact hU [2] [] [2] [(2,3500001)] (by kernel_rfl) (fT o.P [] [3500001] (.inl rfl) (by kernel_rfl) (by kernel_rfl))
 ·refine dc (ax (ay (aK ?_)))
  obtain⟨_,O,h⟩:=bind_some h
  replace O:=dy O
  refine bl o [2] [] [5] (orc:=[]) (by kernel_rfl) (.c O .n) (ax (ep ?_))
  replace h:=Option.some.inj h
  subst h
  exact hU [2] [] [5] [(5,3500001)] (by kernel_rfl) (fT o.P [] [3500001] (.inl rfl) (by kernel_rfl) (by kernel_rfl))
noncomputable def OE(k:Nat):dp Tryz.prog an aN aN:=⟨171,JZ k,fun st=>bW st [.ab 0 aq],fun z=>ql k (z),(RR k),fun _ _ h=>h⟩
noncomputable def I5(k:Nat):cJ cr cr where
 n:=8
 S:=fun z=>⟨[(0,.val bh (z))],[],[]⟩
 be:=fun z y=>⟨[],[],[(3500001,⟨169,p8,(y)⟩)]⟩
 ar:=fun z y=>[.row 3500001]
 rel:=fun z y=>qg k (z)=some y
noncomputable def Ve(k:Nat):Env:=cy Tryz.prog an 8 []
theorem TU(k:Nat):cF Tryz.prog an 172 (I5 k):=by
 refine oL (fn:=Tryz.f172) Tryz.func172 (by kernel_rfl) rfl Tryz.ntmps172 ?_
 rintro cx Z la lc U W h
 have o:br (Ve k) cx:=kb Z la lc
 replace h:qg k U=some W:=h
 unfold qg at h
 refine ay (aK (bl o [0] [] [] (orc:=[]) (by kernel_rfl) .n (ax (ay (ay (aK (fE o 1 [0,3] [] [] (orc:=[]) (by kernel_rfl) .n (AS o (d:=4) (u:=p8) (xs:=U) (by kernel_rfl) (by kernel_rfl) fun ld lf=>(jg (ax (da (b:=ld) (by kernel_rfl) (fun Y=>?_) (fun Y=>?_))))))))))))
 ·replace h:(some ([]:List bG))=some W:=by
   rw[lf Y]at h
   exact h
  refine ay (aK (bl o [2] [] [2] (orc:=[]) (by kernel_rfl) .n (ax (ep (cQ ?_)))))
  replace h:=Option.some.inj h
  subst h
  exact hU [2] [] [2] [(2,3500001)] (by kernel_rfl) (fT o.P [] [3500001] (.inl rfl) (by kernel_rfl) (by kernel_rfl))
 ·refine dc (ax (ay (aK ?_)))
  obtain⟨_,O,h⟩:=bind_some h
  replace O:=dy O
  refine bl o [2] [] [5] (orc:=[]) (by kernel_rfl) (.c O .n) (ax (ep ?_))
  replace h:=Option.some.inj h
  subst h
  exact hU [2] [] [5] [(5,3500001)] (by kernel_rfl) (fT o.P [] [3500001] (.inl rfl) (by kernel_rfl) (by kernel_rfl))
noncomputable def SB(k:Nat):dp Tryz.prog an cr cr:=⟨172,I5 k,fun st=>bW st [.ab 0 bh],fun z=>qg k (z),(TU k),fun _ _ h=>h⟩
noncomputable def Md(k:Nat):cJ (List (Int)) (List (Int)) where
 n:=8
 S:=fun z=>⟨[(0,.val (.ab (.int .i64)) (z))],[],[]⟩
 be:=fun z y=>⟨[],[],[(3500001,⟨3,(.int .i64),(y)⟩)]⟩
 ar:=fun z y=>[.row 3500001]
 rel:=fun z y=>qK k (z)=some y
noncomputable def RU(k:Nat):Env:=cy Tryz.prog an 8 []
theorem VN(k:Nat):cF Tryz.prog an 218 (Md k):=by
 refine oL (fn:=Tryz.f218) Tryz.func218 (by kernel_rfl) rfl Tryz.ntmps218 ?_
 rintro cx Z la lc U W h
 have o:br (RU k) cx:=kb Z la lc
 replace h:qK k U=some W:=h
 unfold qK at h
 refine ay (aK (bl o [0] [] [] (orc:=[]) (by kernel_rfl) .n (ax (ay (ay (aK (fE o 1 [0,3] [] [] (orc:=[]) (by kernel_rfl) .n (AS o (d:=4) (u:=(.int .i64)) (xs:=U) (by kernel_rfl) (by kernel_rfl) fun ld lf=>(jg (ax (da (b:=ld) (by kernel_rfl) (fun Y=>?_) (fun Y=>?_))))))))))))
 ·replace h:(some ([]:List (Int)))=some W:=by
   rw[lf Y]at h
   exact h
  refine ay (aK (bl o [2] [] [2] (orc:=[]) (by kernel_rfl) .n (ax (ep (cQ ?_)))))
  replace h:=Option.some.inj h
  subst h
  exact hU [2] [] [2] [(2,3500001)] (by kernel_rfl) (fT o.P [] [3500001] (.inl rfl) (by kernel_rfl) (by kernel_rfl))
 ·refine dc (ax (ay (aK ?_)))
  obtain⟨_,O,h⟩:=bind_some h
  replace O:=dy O
  refine bl o [2] [] [5] (orc:=[]) (by kernel_rfl) (.c O .n) (ax (ep ?_))
  replace h:=Option.some.inj h
  subst h
  exact hU [2] [] [5] [(5,3500001)] (by kernel_rfl) (fT o.P [] [3500001] (.inl rfl) (by kernel_rfl) (by kernel_rfl))
noncomputable def Ue(k:Nat):dp Tryz.prog an (List (Int)) (List (Int)):=⟨218,Md k,fun st=>bW st [.ab 0 (.ab (.int .i64))],fun z=>qK k (z),(VN k),fun _ _ h=>h⟩
noncomputable def yN(k:Nat):cJ AR aI where
 n:=59
 S:=fun z=>⟨[(0,aw (z.1)),(1,.ptr 59 0),(2,.ptr 60 0),(3,.ptr 61 0),(4,.ptr 63 0)],[(59,.cells [.val au (z.2.1)] 83),(60,.cells [aM (z.2.2.1)] 4),(61,.cells [.osl 62] 83),(62,.bj 207 ⟨iM,4,3,(.int .i64)⟩ (z.2.2.2) none),(63,.cells [.clos 217 [59,60,61,63]] 157)],[]⟩
 be:=fun z y=>⟨[],[(59,.cells [.val au (z.2.1)] 83),(60,.cells [aM (z.2.2.1)] 4),(61,.cells [.osl 62] 83),(62,.bj 207 ⟨iM,4,3,(.int .i64)⟩ (y) none),(63,.cells [.clos 217 [59,60,61,63]] 157)],[]⟩
 ar:=fun z y=>[]
 rel:=fun z y=>jV k (z.1) (z.2.1) (z.2.2.1) (z.2.2.2)=some y
noncomputable def JM(k:Nat)(h:cF Tryz.prog an 217 (yN k)):dp Tryz.prog an AR aI:=⟨217,yN k,fun st=>bW st [.ab 0 (.int .i64),.ad 59 0 au,.ad 60 0 .bool,.bj 62 iM],fun z=>jV k (z.1) (z.2.1) (z.2.2.1) (z.2.2.2),h,fun _ _ h=>h⟩
theorem J5:∀k:Nat,cF Tryz.prog an 217 (yN k)
 |0=>Lb Tryz.func217 (by kernel_rfl) rfl _ fun _ _ h=>nomatch (show(none:Option _)=some _ from h)
 |k+1=>fp Tryz.func217 (by kernel_rfl) rfl (yN (k+1)) Tryz.ntmps217 [] (fun z=>jV (k+1) (z.1) (z.2.1) (z.2.2.1) (z.2.2.2)) (fun _ _ h=>h) (fun st=>bW st [.bj 62 iM]) [59,60,61,62,63] [] (fun z=>.ah 1 (.a iM fun o=>.ah 1 (.bN (Ue k) [] [(3500001,17)] (fun _=>.j [.rw 17 3 (.int .i64)] (aR [1,2,3,4,6,7] [6,59,60,61,62,63] [17]) (tn k (z.2.2.2) o (jV k) (z.2.1) (z.2.2.1)) (.ah 1 (.cg 3 (.t (.ci FU .z)))) (fun O=>.ah 5 (.bw [.ab 38 (.int .i64),.bj 62 iM] (aR [1,2,3,4,8,36,37,38] [59,60,61,62,63] [17]) (fun n=>cT (uy O (z.2.2.2) (jV k) (z.2.1) (z.2.2.1) n)) k fun _ _=>.ah 2 (.t (.ah 3 (.u 0 (.ah 1 (.cU [[],[0],[1],[2],[3],[7],[1,0],[2,0],[3,0],[7,0],[2,1],[3,1],[7,1],[3,2],[7,2],[7,3],[8,7],[2,1,0],[3,1,0],[7,1,0],[3,2,0],[7,2,0],[7,3,0],[8,7,0],[3,2,1],[7,2,1],[7,3,1],[8,7,1],[4,3,2],[7,3,2],[8,7,2],[8,7,3],[9,8,7],[3,2,1,0],[7,2,1,0],[7,3,1,0],[8,7,1,0],[4,3,2,0],[7,3,2,0],[8,7,2,0],[8,7,3,0],[9,8,7,0],[4,3,2,1],[7,3,2,1],[8,7,2,1],[8,7,3,1],[9,8,7,1],[5,4,3,2],[7,4,3,2],[8,7,3,2],[9,8,7,2],[9,8,7,3],[4,3,2,1,0],[7,3,2,1,0],[8,7,2,1,0],[8,7,3,1,0],[9,8,7,1,0],[5,4,3,2,0],[7,4,3,2,0],[8,7,3,2,0],[9,8,7,2,0],[9,8,7,3,0],[5,4,3,2,1],[7,4,3,2,1],[8,7,3,2,1],[9,8,7,2,1],[9,8,7,3,1],[6,5,4,3,2],[7,5,4,3,2],[8,7,4,3,2],[9,8,7,3,2],[5,4,3,2,1,0],[7,4,3,2,1,0],[8,7,3,2,1,0],[9,8,7,2,1,0],[9,8,7,3,1,0],[6,5,4,3,2,0],[7,5,4,3,2,0],[8,7,4,3,2,0],[9,8,7,3,2,0],[6,5,4,3,2,1],[7,5,4,3,2,1],[8,7,4,3,2,1],[9,8,7,3,2,1],[7,6,5,4,3,2],[8,7,5,4,3,2],[9,8,7,4,3,2],[6,5,4,3,2,1,0],[7,5,4,3,2,1,0],[8,7,4,3,2,1,0],[9,8,7,3,2,1,0],[7,6,5,4,3,2,0],[8,7,5,4,3,2,0],[9,8,7,4,3,2,0],[7,6,5,4,3,2,1],[8,7,5,4,3,2,1],[9,8,7,4,3,2,1],[8,7,6,5,4,3,2],[9,8,7,5,4,3,2],[7,6,5,4,3,2,1,0],[8,7,5,4,3,2,1,0],[9,8,7,4,3,2,1,0],[8,7,6,5,4,3,2,0],[9,8,7,5,4,3,2,0],[8,7,6,5,4,3,2,1],[9,8,7,5,4,3,2,1],[9,8,7,6,5,4,3,2],[8,7,6,5,4,3,2,1,0],[9,8,7,5,4,3,2,1,0],[9,8,7,6,5,4,3,2,0],[9,8,7,6,5,4,3,2,1],[10,9,8,7,6,5,4,3,2],[9,8,7,6,5,4,3,2,1,0],[10,9,8,7,6,5,4,3,2,0],[10,9,8,7,6,5,4,3,2,1],[10,9,8,7,6,5,4,3,2,1,0],[11,10,9,8,7,6,5,4,3,2,1,0],[12,11,10,9,8,7,6,5,4,3,2,1,0],[13,12,11,10,9,8,7,6,5,4,3,2,1,0]] (.ah 1 (.u 0 (.u 0 (.bN (JM k (J5 k)) [(59,59),(60,60),(61,61),(62,62),(63,63)] [(59,59),(60,60),(61,61),(62,62),(63,63)] (fun _=>.z)))))))))))))))) (by kernel_rfl)
noncomputable def V0(k:Nat):dp Tryz.prog an AR aI:=JM k (J5 k)
noncomputable def DN(k:Nat):cJ H7 aI where
 n:=15
 S:=fun z=>⟨[(0,.osl 15),(1,.val au (z.1)),(2,aw (z.2.1)),(3,aM (z.2.2.1))],[(15,.bj 207 ⟨iM,4,3,(.int .i64)⟩ (z.2.2.2) none)],[]⟩
 be:=fun z y=>⟨[],[(15,.bj 207 ⟨iM,4,3,(.int .i64)⟩ (y) none)],[]⟩
 ar:=fun z y=>[.osl 15]
 rel:=fun z y=>vb k (z.1) (z.2.1) (z.2.2.1) (z.2.2.2)=some y
theorem Oj(k:Nat):cF Tryz.prog an 199 (DN k):=fp Tryz.func199 (by kernel_rfl) rfl (DN k) Tryz.ntmps199 [] (fun z=>vb k (z.1) (z.2.1) (z.2.2.1) (z.2.2.2)) (fun _ _ h=>h) (fun st=>bW st [.bj 15 iM]) [15] [] (fun _=>.ah 5 (.bN (V0 k) [(5,59),(7,60),(4,61),(15,62),(9,63)] [(59,5),(60,7),(61,4),(62,15),(63,9)] (fun _=>.z))) (by kernel_rfl)
noncomputable def No(k:Nat):dp Tryz.prog an H7 aI:=⟨199,DN k,fun st=>bW st [.ab 1 au,.ab 2 (.int .i64),.ab 3 .bool,.bj 15 iM],fun z=>vb k (z.1) (z.2.1) (z.2.2.1) (z.2.2.2),(Oj k),fun _ _ h=>h⟩
noncomputable def E8(k:Nat):aZ:=⟨[ma],[ma,(.int .i64)],[],fun x=>vd k x⟩
theorem M4(k:Nat):aY Tryz.prog an 175 (E8 k).ba:=bt bq Tryz.func175 (by kernel_rfl) rfl Tryz.ntmps175 (E8 k) (by kernel_rfl) [Iz k] (fun _=>.ah 4 (.f (.ah 1 (.Ju (No k) 0 5000000 [(5000000,15)] [(15,5000000)] (fun _=>.z))))) (by kernel_rfl)
noncomputable def Pe(k:Nat):aL Tryz.prog an:=⟨175,E8 k,M4 k⟩
noncomputable def Fk(k:Nat):aZ:=⟨[gR],[gR],[],fun x=>wP k x⟩
theorem UU(k:Nat):aY Tryz.prog an 139 (Fk k).ba:=bt bq Tryz.func139 (by kernel_rfl) rfl Tryz.ntmps139 (Fk k) (by kernel_rfl) [Pe k] (fun x=>.ah 3 (.bN (OE k) [] [(3500001,8)] (fun v1=>.ah 1 (.bN (SB k) [] [(3500001,12)] (fun v2=>.ah 1 (.ci Qp (.ah 1 (.ci OI (.ah 2 (.bw [.ab 23 (.int .i64),.rw 12 169 p8] (aR [1,2,3,22,23] [1,2,3] [8,12]) (fun n=>cT (tD k v2 v1 x n)) k fun o O=>.ah 2 (.t (.j [.rw 12 169 p8] (aR [1,2,3,22,23] [1,2,3] [8,12]) (ym (eC o) (O.1)) (.ah 3 (.u 0 (.t (.ur 16 (.u 0 (.u 0 (.u 0 (.u 0 .z)))))))) (fun _=>.z))))))))))))) (by kernel_rfl)
noncomputable def VT(k:Nat):aL Tryz.prog an:=⟨139,Fk k,UU k⟩
noncomputable def DK(k:Nat):aZ:=⟨[ck,gR,.str,.bool],[(.ab .str),(.int .i64)],[],fun x=>Gl (Bool.not (x.2.2.2)) (uR k (x.1) (x.2.1) (x.2.2.1))⟩
theorem SX(k:Nat):aY Tryz.prog an 99 (DK k).ba:=Xi bq Tryz.func99 (by kernel_rfl) rfl Tryz.ntmps99 (DK k) (by kernel_rfl) [Ce k,VT k] [ck,gR,.str] (fun x=>((x.1),(x.2.1),(x.2.2),false)) (fun x=>uR k (x.1) (x.2.1) (x.2.2)) (fun z y h=>by obtain⟨a0,o,a2,a3⟩:=z;obtain⟨O,h⟩:=Rp h;have U:a3=false:=(by cases a3<;>first|rfl|cases O);subst U;exact⟨(a0,o,a2),rfl,h⟩) (fun _=>.ah 6 (.f (.ah 1 (.bN (Od k) [] [(3500001,29)] (fun _=>.ah 2 (.f (.ah 3 (.c (.ah 1 (.bN (zc k) [] [(2,41),(14,96),(16,95)] (fun _=>.ah 1 (.rU 29 (.bN (UY k) [(95,161),(96,162),(41,163)] [(161,95),(162,96),(163,41),(3500001,47)] (fun _=>.z)))))) (.ah 1 (.c (.ah 1 (.bN (zc k) [] [(2,54),(14,96),(16,95)] (fun _=>.ah 1 (.rU 29 (.bN (KR k) [(95,161),(96,162),(54,163)] [(161,95),(162,96),(163,54),(3500001,60)] (fun _=>.z)))))) (.ah 1 (.cU [[],[0],[1],[1,0],[2,1],[2,1,0],[3,2,1,0],[4,3,2,1,0]] (.ah 1 (.bN (zc k) [] [(2,66),(14,96),(16,95)] (fun _=>.ah 1 (.ci II (.ah 1 (.rU 29 (.bN (KR k) [(95,161),(96,162),(66,163)] [(161,95),(162,96),(163,66),(3500001,75)] (fun v9=>.ah 2 (.bw [.ab 80 (.int .i64),.rw 75 9 .str] (aR [12,16,78,79,80] [] [75]) (fun n=>cT (qh v9 n)) k fun _ _=>.ah 2 (.t (.ah 3 (.u 0 (.ah 2 (.ci II (.u 0 (.u 0 .z)))))))))))))))))))))))))))) (by kernel_rfl)
noncomputable def Wj(k:Nat):aL Tryz.prog an:=⟨99,DK k,SX k⟩
noncomputable def CE(k:Nat):aZ:=⟨[ck,gR,.str],[.str,(.int .i64)],[],fun x=>yH k (x.1) (x.2.1) (x.2.2)⟩
theorem UT(k:Nat):aY Tryz.prog an 71 (CE k).ba:=bt bq Tryz.func71 (by kernel_rfl) rfl Tryz.ntmps71 (CE k) (by kernel_rfl) [Wj k] (fun _=>.z) (by kernel_rfl)
noncomputable def OP(k:Nat):aL Tryz.prog an:=⟨71,CE k,UT k⟩
noncomputable def An(k:Nat):aZ:=⟨[ck,.str,jd],[.str,(.ab (.pair (.int .i64) (.pair .str (.pair .str .unit)))),(.int .i64)],[],fun x=>Fa k (x.1) (x.2.1) (x.2.2)⟩
theorem VH(k:Nat):aY Tryz.prog an 42 (An k).ba:=bt bq Tryz.func42 (by kernel_rfl) rfl Tryz.ntmps42 (An k) (by kernel_rfl) [OP k] (fun x=>.ah 6 (.bw [.ab 1 .str,.ab 16 (.int .i64),.rw 9 130 (.pair (.int .i64) (.pair .str (.pair .str .unit)))] (aR [1,3,9,14,15,16] [3] [9]) (fun n=>pd (tG k (x.2.2) (x.1) n)) k fun o O=>.ah 2 (.t (.ah 4 (.ac [.str,(.int .i64)] fun v1=>.ah 2 (.f (.j [.rw 9 130 (.pair (.int .i64) (.pair .str (.pair .str .unit)))] (aR [3,9,12,14,15,16] [3] [9]) (wc (nw o) v1 (O.2.1)) .z (fun _=>.z)))))))) (by kernel_rfl)
noncomputable def WH(k:Nat):aL Tryz.prog an:=⟨42,An k,VH k⟩
noncomputable def D0(k:Nat):aZ:=⟨[ck,jd,.str],[.str,(.int .i64)],[],fun x=>oU k (x.1) (x.2.1) (x.2.2)⟩
theorem Te(k:Nat):aY Tryz.prog an 16 (D0 k).ba:=bt bq Tryz.func16 (by kernel_rfl) rfl Tryz.ntmps16 (D0 k) (by kernel_rfl) [Rb k,WH k] (fun _=>.z) (by kernel_rfl)
noncomputable def Ru(k:Nat):aL Tryz.prog an:=⟨16,D0 k,Te k⟩
noncomputable def C6(k:Nat):aZ:=⟨[kF,(.int .i64),.str],[.str,(.int .i64)],[],fun x=>jk k (x.1) (x.2.1) (x.2.2)⟩
theorem VC(k:Nat):aY Tryz.prog an 9 (C6 k).ba:=bt bq Tryz.func9 (by kernel_rfl) rfl Tryz.ntmps9 (C6 k) (by kernel_rfl) [T6 k,DJ k,Tl k,Ru k] (fun x=>.ah 5 (.f (.ah 4 (.f (.ah 2 (.ac [(.ab (.int .i64))] fun v3=>.bw [.ab 2 .str,.ab 31 (.int .i64)] (aR [2,3,29,30,31] [3] []) (fun n=>cT (pY k v3 (x.1) n)) k fun _ _=>.z)))))) (by kernel_rfl)
noncomputable def Kr(k:Nat):aL Tryz.prog an:=⟨9,C6 k,VC k⟩
noncomputable def D4(k:Nat):aZ:=⟨[kF,(.int .i64),.str],[.str,(.int .i64)],[],fun x=>oC k (x.1) (x.2.1) (x.2.2)⟩
theorem M3(k:Nat):aY Tryz.prog an 45 (D4 k).ba:=bt bq Tryz.func45 (by kernel_rfl) rfl Tryz.ntmps45 (D4 k) (by kernel_rfl) [Kr k] (fun _=>.z) (by kernel_rfl)
noncomputable def EK(k:Nat):aL Tryz.prog an:=⟨45,D4 k,M3 k⟩
noncomputable def En(k:Nat):aZ:=⟨[kF,.str],[(.ab bg),(.int .i64)],[],fun x=>xW k (x.1) (x.2)⟩
theorem Wn(k:Nat):aY Tryz.prog an 19 (En k).ba:=bt bq Tryz.func19 (by kernel_rfl) rfl Tryz.ntmps19 (En k) (by kernel_rfl) [yL k,vI k,EK k,zZ k] (fun x=>.ah 6 (.f (.ah 4 (.f (.ah 1 (.mk (.ah 2 (.bw [.ab 39 (.int .i64),.ad 2 0 (.ab .str),.ad 2 1 aq,.ad 2 2 fY,.bj 35 bg] (aR [1,2,9,38,39] [2,35] []) (fun n=>EJ (rC k (x.1) (x.2) n)) k fun O o=>.ah 2 (.t (.ah 6 (.f (.ah 1 (.ac [(.int .i64),hd,(.int .i64)] fun v4=>.ah 2 (.f (.ah 2 (.bw [.ab 15 (.int .i64),.ab 66 (.int .i64),.bj 35 bg] (aR [1,2,9,15,38,39,64,65,66] [2,35] []) (fun n=>pd (tS v4 (Ly O) (o.1) (o.2.1) (o.2.2.1) (o.2.2.2.1) n)) k fun U W=>.ah 2 (.t (.j [.ab 15 (.int .i64),.bj 35 bg] (aR [1,2,9,15,38,39,64,65,66] [2,35] []) (cT (tH (nw U) (W.2.1))) (.ah 3 (.t (.ah 1 (.cU [[],[0],[1],[2],[3],[6],[1,0],[2,0],[3,0],[6,0],[2,1],[3,1],[6,1],[3,2],[6,2],[6,3],[7,6],[2,1,0],[3,1,0],[6,1,0],[3,2,0],[6,2,0],[6,3,0],[7,6,0],[3,2,1],[6,2,1],[6,3,1],[7,6,1],[4,3,2],[6,3,2],[7,6,2],[7,6,3],[8,7,6],[3,2,1,0],[6,2,1,0],[6,3,1,0],[7,6,1,0],[4,3,2,0],[6,3,2,0],[7,6,2,0],[7,6,3,0],[8,7,6,0],[4,3,2,1],[6,3,2,1],[7,6,2,1],[7,6,3,1],[8,7,6,1],[5,4,3,2],[6,4,3,2],[7,6,3,2],[8,7,6,2],[8,7,6,3],[4,3,2,1,0],[6,3,2,1,0],[7,6,2,1,0],[7,6,3,1,0],[8,7,6,1,0],[5,4,3,2,0],[6,4,3,2,0],[7,6,3,2,0],[8,7,6,2,0],[8,7,6,3,0],[5,4,3,2,1],[6,4,3,2,1],[7,6,3,2,1],[8,7,6,2,1],[8,7,6,3,1],[6,5,4,3,2],[7,6,4,3,2],[8,7,6,3,2],[5,4,3,2,1,0],[6,4,3,2,1,0],[7,6,3,2,1,0],[8,7,6,2,1,0],[8,7,6,3,1,0],[6,5,4,3,2,0],[7,6,4,3,2,0],[8,7,6,3,2,0],[6,5,4,3,2,1],[7,6,4,3,2,1],[8,7,6,3,2,1],[7,6,5,4,3,2],[8,7,6,4,3,2],[6,5,4,3,2,1,0],[7,6,4,3,2,1,0],[8,7,6,3,2,1,0],[7,6,5,4,3,2,0],[8,7,6,4,3,2,0],[7,6,5,4,3,2,1],[8,7,6,4,3,2,1],[8,7,6,5,4,3,2],[7,6,5,4,3,2,1,0],[8,7,6,4,3,2,1,0],[8,7,6,5,4,3,2,0],[8,7,6,5,4,3,2,1],[9,8,7,6,5,4,3,2],[8,7,6,5,4,3,2,1,0],[9,8,7,6,5,4,3,2,0],[9,8,7,6,5,4,3,2,1],[9,8,7,6,5,4,3,2,1,0],[10,9,8,7,6,5,4,3,2,1,0],[11,10,9,8,7,6,5,4,3,2,1,0]] (.ah 1 (.u 0 (.u 0 .z))))))) (fun _=>.z))))))))))))))))))) (by kernel_rfl)
noncomputable def UW(k:Nat):aL Tryz.prog an:=⟨19,En k,Wn k⟩
noncomputable def DW(k:Nat):cJ ye qO where
 n:=46
 S:=fun z=>⟨[(0,.val ck (z.1)),(1,.row 10000000)],[],[(10000000,⟨65,(.arr 2 .str),(z.2)⟩)]⟩
 be:=fun z y=>⟨[],[],[(3500001,⟨90,hd,(y.2)⟩),(10000000,⟨65,(.arr 2 .str),(z.2)⟩)]⟩
 ar:=fun z y=>[.row 3500001,aw (y.1)]
 rel:=fun z y=>sq k (z.1) (z.2)=some y
theorem Pz(k:Nat):cF Tryz.prog an 49 (DW k):=fp Tryz.func49 (by kernel_rfl) rfl (DW k) Tryz.ntmps49 [kL k,zZ k] (fun z=>sq k (z.1) (z.2)) (fun _ _ h=>h) (fun st=>bW st [.ab 1 (.int .i64),.rw 3500001 90 hd]) [] [3500001,10000000] (fun z=>.ah 6 (.c (.ah 2 (.ew [1,4,5] [] [4,10000000] [(4,3500001),(10000000,10000000)])) (.ah 2 (.c (.ah 2 (.ew [1,4,5] [] [4,10000000] [(4,3500001),(10000000,10000000)])) (.ah 4 (.bw [.ab 23 (.int .i64),.rw 7 90 hd] (aR [1,2,7,21,22,23] [2] [7,10000000]) (fun n=>cT (oJ k (z.2) (z.1) n)) k fun _ _=>.ah 2 (.c (.ah 3 (.u 0 (.ah 6 (.t (.ah 2 (.ew [1,4,5] [] [4,10000000] [(4,3500001),(10000000,10000000)])))))) (.ah 1 (.ew [1,4,5] [] [7,10000000] [(7,3500001),(10000000,10000000)]))))))))) (by kernel_rfl)
noncomputable def PA(k:Nat):dp Tryz.prog an ye qO:=⟨49,DW k,fun st=>bW st [.ab 0 ck,.rw 10000000 65 (.arr 2 .str)],fun z=>sq k (z.1) (z.2),(Pz k),fun _ _ h=>h⟩
noncomputable def Cv(k:Nat):cJ (aV×List bA) gJ where
 n:=71
 S:=fun z=>⟨[(0,.val ck (z.1)),(1,.row 10000000)],[],[(10000000,⟨90,hd,(z.2)⟩)]⟩
 be:=fun z y=>⟨[],[],[(13,⟨56,kN,(y.1)⟩),(10000000,⟨90,hd,(y.2)⟩)]⟩
 ar:=fun z y=>[.row 13]
 rel:=fun z y=>pp k (z.1) (z.2)=some y
theorem Uw(k:Nat):cF Tryz.prog an 50 (Cv k):=fp Tryz.func50 (by kernel_rfl) rfl (Cv k) Tryz.ntmps50 [] (fun z=>pp k (z.1) (z.2)) (fun _ _ h=>h) (fun st=>bW st [.rw 13 56 kN,.rw 10000000 90 hd]) [] [13,10000000] (fun z=>.ah 5 (.bw [.ab 19 (.int .i64),.ad 2 0 (.ab .str),.ad 2 1 aq,.mp 16 dU (.int .i64),.rw 10000000 90 hd] (aR [1,2,5,17,18,19] [2,5,16] [10000000]) (fun n=>EJ (sh k (z.2) n)) k fun O o=>.ah 2 (.c (.ah 2 (.a hd fun U=>.u 0 (.ah 1 (.bw [.ab 25 (.int .i64),.mp 16 dU (.int .i64)] (aR [1,2,5,17,18,19,23,24,25] [2,5,16] [10000000]) (fun n=>cT (sU U (Ly O) (o.1) (o.2.1) (o.2.2.1) (o.2.2.2.2) n)) k fun _ _=>.ah 2 (.t (.ah 3 (.nD [] [0,1] 2 3 4 5 6 .z))))))) (.ah 3 (.bw [.ab 41 (.int .i64),.mp 37 (.int .i32) (.int .i64)] (aR [1,5,10,39,40,41] [5,10,16,37] [10000000]) (fun n=>cT (tV k (o.2.2.1) (o.2.2.2.1) (o.2.2.2.2) n)) k fun _ _=>.ah 2 (.f (.ah 4 (.bN (GV k) [(16,4)] [(1,53),(4,16)] (fun _=>.bN (IS k) [(53,12),(16,13),(5,14),(10,15),(37,16)] [(12,53),(13,16),(14,5),(15,10),(16,37),(17,55)] (fun v2=>.bw [.ab 57 (.int .i64),.rw 13 56 kN] (aR [1,5,13,55,56,57] [5,16] [13,55,10000000]) (fun n=>cT (vg v2 (o.2.2.2.1) (o.2.2.2.2) n)) k fun _ _=>.ah 2 (.t (.ah 3 (.u 0 (.cU [[],[0],[1],[2],[3],[1,0],[2,0],[3,0],[2,1],[3,1],[3,2],[2,1,0],[3,1,0],[3,2,0],[3,2,1],[4,3,2],[3,2,1,0],[4,3,2,0],[4,3,2,1],[4,3,2,1,0],[5,4,3,2,1],[5,4,3,2,1,0],[6,5,4,3,2,1],[6,5,4,3,2,1,0],[7,6,5,4,3,2,1,0],[8,7,6,5,4,3,2,1,0]] .z)))))))))))))) (by kernel_rfl)
noncomputable def W8(k:Nat):dp Tryz.prog an (aV×List bA) gJ:=⟨50,Cv k,fun st=>bW st [.ab 0 ck,.rw 10000000 90 hd],fun z=>pp k (z.1) (z.2),(Uw k),fun _ _ h=>h⟩
noncomputable def Fc(k:Nat):cJ ye iF where
 n:=20
 S:=fun z=>⟨[(0,.val ck (z.1)),(1,.row 10000000)],[],[(10000000,⟨65,(.arr 2 .str),(z.2)⟩)]⟩
 be:=fun z y=>⟨[],[],[(3500001,⟨56,kN,(y.2)⟩),(10000000,⟨65,(.arr 2 .str),(z.2)⟩)]⟩
 ar:=fun z y=>[.row 3500001,aw (y.1)]
 rel:=fun z y=>oP k (z.1) (z.2)=some y
theorem VL(k:Nat):cF Tryz.prog an 43 (Fc k):=fp Tryz.func43 (by kernel_rfl) rfl (Fc k) Tryz.ntmps43 [] (fun z=>oP k (z.1) (z.2)) (fun _ _ h=>h) (fun st=>bW st [.ab 1 (.int .i64),.rw 3500001 56 kN]) [] [3500001,10000000] (fun _=>.ah 3 (.bN (PA k) [(10000000,10000000)] [(3500001,11),(10000000,10000000)] (fun _=>.ah 2 (.c (.ah 2 (.ew [1,4,5] [] [4,10000000] [(4,3500001),(10000000,10000000)])) (.ah 1 (.bN (W8 k) [(11,10000000)] [(13,19),(10000000,11)] (fun _=>.ew [1,4,5] [] [19,10000000] [(19,3500001),(10000000,10000000)]))))))) (by kernel_rfl)
noncomputable def Gg(k:Nat):dp Tryz.prog an ye iF:=⟨43,Fc k,fun st=>bW st [.ab 0 ck,.rw 10000000 65 (.arr 2 .str)],fun z=>oP k (z.1) (z.2),(VL k),fun _ _ h=>h⟩
noncomputable def AL(k:Nat):aZ:=⟨[kF,(.int .i64),(.int .i64),(.ab .str)],[xP,(.int .i64)],[],fun x=>Py k (x.1) (x.2.1) (x.2.2.1) (x.2.2.2)⟩
theorem SY(k:Nat):aY Tryz.prog an 20 (AL k).ba:=bt bq Tryz.func20 (by kernel_rfl) rfl Tryz.ntmps20 (AL k) (by kernel_rfl) [yL k,EK k,DJ k] (fun x=>.ah 6 (.f (.ah 3 (.cg 5 (.f (.ah 2 (.f (.ah 4 (.bw [.ab 42 (.int .i64),.rw 12 65 (.arr 2 .str)] (aR [1,2,4,12,40,41,42] [4] [12]) (fun n=>cT (Fs k (x.2.2.2) (x.1) (x.2.1) (x.2.2.1) n)) k fun O o=>.ah 2 (.c (.ah 4 (.ac [.str,(.int .i64)] fun v2=>.ah 2 (.f (.ah 1 (.ac [.str,(.int .i64)] fun v3=>.ah 2 (.f (.ah 3 (.g 5 (FJ (o.2) v2 v3 (eC O) (o.1)) .z .z (fun _=>.z))))))))) (.ah 1 (.bN (Gg k) [(12,10000000)] [(3500001,88),(10000000,12)] (fun _=>.z))))))))))))) (by kernel_rfl)
noncomputable def Xo(k:Nat):aL Tryz.prog an:=⟨20,AL k,SY k⟩
end Go.Ev
