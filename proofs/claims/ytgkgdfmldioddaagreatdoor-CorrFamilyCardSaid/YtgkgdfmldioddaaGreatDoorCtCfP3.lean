/- Contracts, by program. -/
import Derived.Test.YtgkgdfmldioddaaGreatDoorProg
import Derived.Test.YtgkgdfmldioddaaGreatDoorMM6
import Derived.Test.YtgkgdfmldioddaaGreatDoorMM8
import Derived.Test.YtgkgdfmldioddaaGreatDoorMM9
import Derived.Test.YtgkgdfmldioddaaGreatDoorCtCfP1
import Derived.Test.YtgkgdfmldioddaaGreatDoorCtCfP2
import Derived.KernelRfl
import Derived.Test.YtgkgdfmldioddaaGreatDoorTyA
set_option linter.unusedSectionVars false
set_option linter.unusedVariables false
set_option linter.unusedSimpArgs false
namespace Go.Ev
open Go Go.Proofs
set_option linter.unusedVariables false
set_option maxRecDepth 100000
noncomputable def Fz(k:Nat):cJ (List UInt8×List (Int)) (Option (Option (Nat×Int))×Int×List (Int)) where
 n:=19
 S:=fun z=>⟨[(0,.ptr 19 0),(1,bd (z.1))],[(19,.cells [.fw 19,.row 20] 111)],[(20,⟨5,(.int .u8),(z.2)⟩)]⟩
 be:=fun z y=>⟨[],[(19,.cells [.fw 19,.row 20] 111)],[(20,⟨5,(.int .u8),(y.2.2)⟩)]⟩
 ar:=fun z y=>[aw (y.2.1),.val .err (y.1)]
 rel:=fun z y=>pJ k (z.1) (z.2)=some y
theorem Oc(k:Nat):cF Tryz.prog an 54 (Fz k):=fp Tryz.func54 (by kernel_rfl) rfl (Fz k) Tryz.ntmps54 [] (fun z=>pJ k (z.1) (z.2)) (fun _ _ h=>h) (fun st=>bW st [.ab 1 .err,.ab 0 (.int .i64),.rw 20 5 (.int .u8)]) [19] [20] (fun _=>.ah 2 (.bN (N8 k) [(19,20),(20,21)] [(20,19),(21,20)] (fun _=>.z))) (by kernel_rfl)
noncomputable def JE(k:Nat):dp Tryz.prog an (List UInt8×List (Int)) (Option (Option (Nat×Int))×Int×List (Int)):=⟨54,Fz k,fun st=>bW st [.ab 1 .str,.rw 20 5 (.int .u8)],fun z=>pJ k (z.1) (z.2),(Oc k),fun _ _ h=>h⟩
noncomputable def Fx(k:Nat):aZ:=⟨[ck,(.int .u32),(.int .u32)],[.str,(.int .i64)],[],fun x=>sK k (x.1) (x.2.1) (x.2.2)⟩
theorem Q7(k:Nat):aY Tryz.prog an 128 (Fx k).ba:=bt bq Tryz.func128 (by kernel_rfl) rfl Tryz.ntmps128 (Fx k) (by kernel_rfl) [kL k,yV k] (fun x=>.ah 5 (.f (.ah 3 (.f (.ah 3 (.bw [.ab 25 (.int .i64),.rw 1000009 5 (.int .u8)] (aR [1,2,9,23,24,25] [9] [1000009]) (fun n=>cT (qf k (x.1) (x.2.1) (x.2.2) n)) k fun o O=>.ah 2 (.c (.j [.rw 1000009 5 (.int .u8)] (aR [1,2,9,23,24,25] [9] [1000009]) (oE (eC o) (O.1)) (.ah 3 (.c (.bN (JE k) [(9,19),(1000009,20)] [(19,9),(20,1000009)] (fun _=>.z)) (.ah 1 (.t (.bN (JE k) [(9,19),(1000009,20)] [(19,9),(20,1000009)] (fun _=>.z)))))) (fun _=>.z)) (.ah 1 (.bN (Qn k) [(9,14),(1000009,15)] [] (fun _=>.z)))))))))) (by kernel_rfl)
noncomputable def Jc(k:Nat):aL Tryz.prog an:=⟨128,Fx k,Q7 k⟩
noncomputable def BG(k:Nat):aZ:=⟨[ck,(.int .u32),(.int .u32)],[.bool],[],fun x=>zn k (x.1) (x.2.1) (x.2.2)⟩
theorem WP(k:Nat):aY Tryz.prog an 125 (BG k).ba:=bt bq Tryz.func125 (by kernel_rfl) rfl Tryz.ntmps125 (BG k) (by kernel_rfl) [Jc k] (fun _=>.z) (by kernel_rfl)
noncomputable def Pu(k:Nat):aL Tryz.prog an:=⟨125,BG k,WP k⟩
noncomputable def Bs(k:Nat):aZ:=⟨[ck,(.int .i32),(.int .u32),(.int .u32)],[.bool],[],fun x=>uG k (x.1) (x.2.1) (x.2.2.1) (x.2.2.2)⟩
theorem W0(k:Nat):aY Tryz.prog an 92 (Bs k).ba:=bt bq Tryz.func92 (by kernel_rfl) rfl Tryz.ntmps92 (Bs k) (by kernel_rfl) [Dx k,Pu k] (fun _=>.ah 3 (.t (.ah 2 (.cg 4 .z)))) (by kernel_rfl)
noncomputable def Ia(k:Nat):aL Tryz.prog an:=⟨92,Bs k,W0 k⟩
noncomputable def BI(k:Nat):aZ:=⟨[ck,p8,(.int .i64)],[.bool],[],fun x=>rr k (x.1) (x.2.1) (x.2.2)⟩
theorem Vf(k:Nat):aY Tryz.prog an 93 (BI k).ba:=bt bq Tryz.func93 (by kernel_rfl) rfl Tryz.ntmps93 (BI k) (by kernel_rfl) [Ia k] (fun x=>.ah 3 (.cg 3 (.kR 14 [.ab 30 .bool] (aR [3,4,30] [3,4] []) (od k (x.1) (x.2.1)) .z (.ah 4 (.kR 9 [.ab 29 .bool] (aR [3,4,15,29] [3,4] []) (vp k (x.1) (x.2.1)) (.ah 4 (.cg 4 .z)) .z (fun _=>.z))) (fun _=>.z)))) (by kernel_rfl)
noncomputable def Sf(k:Nat):aL Tryz.prog an:=⟨93,BI k,Vf k⟩
noncomputable def BO(k:Nat):aZ:=⟨[(.ab .bool),.bool],[(.int .i64)],[],fun x=>wg k (x.1) (x.2)⟩
theorem SQ(k:Nat):aY Tryz.prog an 193 (BO k).ba:=bt bq Tryz.func193 (by kernel_rfl) rfl Tryz.ntmps193 (BO k) (by kernel_rfl) [] (fun x=>.ah 3 (.bw [.ab 8 (.int .i64)] (aR [0,1,7,8] [] []) (p9 (x.1) (x.2)) k fun _ _=>.z)) (by kernel_rfl)
noncomputable def U5(k:Nat):aL Tryz.prog an:=⟨193,BO k,SQ k⟩
noncomputable def CO(k:Nat):aZ:=⟨[(.ab .bool),.bool],[.bool],[],fun x=>pE k (x.1) (x.2)⟩
theorem Va(k:Nat):aY Tryz.prog an 155 (CO k).ba:=bt bq Tryz.func155 (by kernel_rfl) rfl Tryz.ntmps155 (CO k) (by kernel_rfl) [U5 k] (fun _=>.z) (by kernel_rfl)
noncomputable def MO(k:Nat):aL Tryz.prog an:=⟨155,CO k,Va k⟩
noncomputable def EI(k:Nat):aZ:=⟨[ma],[.bool],[],fun x=>kr k x⟩
theorem Ra(k:Nat):aY Tryz.prog an 126 (EI k).ba:=bt bq Tryz.func126 (by kernel_rfl) rfl Tryz.ntmps126 (EI k) (by kernel_rfl) [MO k] (fun x=>.ah 4 (.cg 2 (.f (.ah 4 (.bw [.ab 23 (.int .i64),.rw 19 4 .bool] (aR [3,4,21,22,23] [] [19]) (fun n=>cT (gN k x n)) k fun O o=>.ah 2 (.t (.ah 2 (.a iM fun U=>.j [] (aR [3,4,5,6,21,22,23] [6] [19]) (J2 (nk k U (o.1) x (eC O) (o.2))) (.ah 1 (.j [.ab 30 .bool] (aR [3,4,5,6,21,22,23,29,30] [6] [19]) (pq k U (o.1) x (eC O) (o.2)) .z (fun _=>.f (.j [.ab 33 .bool] (aR [3,4,5,6,21,22,23,29,33] [6] [19]) (o8 k U (o.1) x (eC O) (o.2)) .z (fun _=>.f (.j [.ab 40 .bool] (aR [3,4,5,6,21,22,23,40] [6] [19]) (kW k U (o.1) x (eC O) (o.2)) .z (fun _=>.z))))))) (fun _=>.ah 2 (.cg 3 (.kR 11 [.ab 70 .bool] (aR [3,4,5,6,21,22,23,70] [6] [19]) (pR k U (o.1) x (eC O) (o.2)) .z (.ah 7 (.cg 3 .z)) (fun _=>.f (.ah 1 (.bw [.ab 74 (.int .i64),.rw 19 4 .bool] (aR [3,4,5,21,22,23,72,73,74] [] [19]) (fun n=>cT (po U (o.1) x (eC O) n)) k fun Y W=>.ah 2 (.t (.ah 2 (.a (.int .i64) fun Z=>.ah 2 (.cg 3 (.g 4 (uK (W.2) Z (eC Y) (W.1)) .z (.ah 5 (.u 0 .z)) (fun _=>.f (.ah 1 (.u 0 .z)))))))))))))))))))))) (by kernel_rfl)
noncomputable def Iz(k:Nat):aL Tryz.prog an:=⟨126,EI k,Ra k⟩
noncomputable def DF(k:Nat):aZ:=⟨[ck,ma],[(.int .i64)],[],fun x=>pg k (x.1) (x.2)⟩
theorem QT(k:Nat):aY Tryz.prog an 94 (DF k).ba:=bt bq Tryz.func94 (by kernel_rfl) rfl Tryz.ntmps94 (DF k) (by kernel_rfl) [kL k,Iz k,xk k,Jc k] (fun x=>.ah 5 (.f (.ah 3 (.f (.ah 2 (.bw [.ab 23 (.int .i64)] (aR [2,21,22,23] [2] []) (ov k (x.2) (x.1)) k fun o O=>.ah 2 (.t (.j [] (aR [2,21,22,23] [2] []) (J2 (rF o O)) .z (fun _=>.z))))))))) (by kernel_rfl)
noncomputable def Vl(k:Nat):aL Tryz.prog an:=⟨94,DF k,QT k⟩
noncomputable def Bi(k:Nat):aZ:=⟨[ck,gR],[(.int .i64)],[],fun x=>oe k (x.1) (x.2)⟩
theorem Uz(k:Nat):aY Tryz.prog an 65 (Bi k).ba:=bt bq Tryz.func65 (by kernel_rfl) rfl Tryz.ntmps65 (Bi k) (by kernel_rfl) [kL k,Nc k,Ia k,Sf k,Vl k] (fun x=>.ah 5 (.f (.ah 3 (.cg 3 (.cg 3 (.cg 4 (.cg 4 (.cg 8 (.f (.ah 2 (.bw [.ab 54 (.int .i64)] (aR [2,3,52,53,54] [2,3] []) (pt k (x.2) (x.1)) k fun _ _=>.ah 2 (.f (.ah 2 (.bw [.ab 71 (.int .i64)] (aR [2,3,69,70,71] [2,3] []) (ny k (x.2) (x.1)) k fun _ _=>.ah 2 (.f (.ah 3 (.g 5 rl .z .z (fun _=>.z)))))))))))))))))) (by kernel_rfl)
noncomputable def Ce(k:Nat):aL Tryz.prog an:=⟨65,Bi k,Uz k⟩
noncomputable def E4(k:Nat):aZ:=⟨[ck,jd],[(.int .i64)],[],fun x=>oD k (x.1) (x.2)⟩
theorem P5(k:Nat):aY Tryz.prog an 37 (E4 k).ba:=bt bq Tryz.func37 (by kernel_rfl) rfl Tryz.ntmps37 (E4 k) (by kernel_rfl) [kL k,Ce k] (fun x=>.ah 5 (.f (.ah 2 (.f (.ah 2 (.bw [.ab 19 (.int .i64)] (aR [2,17,18,19] [2] []) (p7 k (x.2) (x.1)) k fun _ _=>.z)))))) (by kernel_rfl)
noncomputable def Ho(k:Nat):aL Tryz.prog an:=⟨37,E4 k,P5 k⟩
noncomputable def Bh(k:Nat):aZ:=⟨[kF],[(.int .i64)],[],fun x=>ge k x⟩
theorem Vo(k:Nat):aY Tryz.prog an 13 (Bh k).ba:=bt bq Tryz.func13 (by kernel_rfl) rfl Tryz.ntmps13 (Bh k) (by kernel_rfl) [kL k,Ri k,Ho k] (fun x=>.ah 5 (.f (.ah 3 (.f (.ah 2 (.bw [.ab 20 (.int .i64)] (aR [1,18,19,20] [1] []) (rD k x) k fun _ _=>.z)))))) (by kernel_rfl)
noncomputable def yL(k:Nat):aL Tryz.prog an:=⟨13,Bh k,Vo k⟩
noncomputable def Ft(k:Nat):aZ:=⟨[kF,(.ab (.int .i64))],[(.int .i64)],[],fun x=>o3 k (x.1) (x.2)⟩
theorem RJ(k:Nat):aY Tryz.prog an 29 (Ft k).ba:=bt bq Tryz.func29 (by kernel_rfl) rfl Tryz.ntmps29 (Ft k) (by kernel_rfl) [yL k] (fun x=>.ah 5 (.f (.ah 2 (.bw [.ab 15 (.int .i64)] (aR [2,13,14,15] [2] []) (sX (x.2) (x.1)) k fun _ _=>.ah 2 (.t (.ah 4 (.cg 5 .z))))))) (by kernel_rfl)
noncomputable def T6(k:Nat):aL Tryz.prog an:=⟨29,Ft k,RJ k⟩
noncomputable def BL(k:Nat):aZ:=⟨[ck,.str],[(.int .i64)],[],fun x=>kD k (x.1) (x.2)⟩
theorem Ob(k:Nat):aY Tryz.prog an 30 (BL k).ba:=bt bq Tryz.func30 (by kernel_rfl) rfl Tryz.ntmps30 (BL k) (by kernel_rfl) [vI k] (fun _=>.z) (by kernel_rfl)
noncomputable def DJ(k:Nat):aL Tryz.prog an:=⟨30,BL k,Ob k⟩
noncomputable def Af(k:Nat):aZ:=⟨[kF,(.int .i64)],[(.ab (.int .i64))],[],fun x=>ro k (x.1) (x.2)⟩
theorem Rf(k:Nat):aY Tryz.prog an 31 (Af k).ba:=bt bq Tryz.func31 (by kernel_rfl) rfl Tryz.ntmps31 (Af k) (by kernel_rfl) [] (fun x=>.ah 5 (.bw [.ab 1 (.int .i64),.rw 5 3 (.int .i64)] (aR [1,2,5] [2] [5]) (fun n=>cT (qU (x.1) n)) k fun _ _=>.ah 2 (.f (.ah 1 (.ci FU .z))))) (by kernel_rfl)
noncomputable def Tl(k:Nat):aL Tryz.prog an:=⟨31,Af k,Rf k⟩
noncomputable def CY(k:Nat):aZ:=⟨[ck],[gR],[],fun x=>E5 k x⟩
theorem TP(k:Nat):aY Tryz.prog an 98 (CY k).ba:=bt bq Tryz.func98 (by kernel_rfl) rfl Tryz.ntmps98 (CY k) (by kernel_rfl) [] (fun _=>.z) (by kernel_rfl)
noncomputable def QN(k:Nat):aL Tryz.prog an:=⟨98,CY k,TP k⟩
noncomputable def C7(k:Nat):aZ:=⟨[ck,.str],[bg,(.int .i64)],[],fun x=>wT k (x.1) (x.2)⟩
theorem PQ(k:Nat):aY Tryz.prog an 133 (C7 k).ba:=bt bq Tryz.func133 (by kernel_rfl) rfl Tryz.ntmps133 (C7 k) (by kernel_rfl) [BX k,Dx k] (fun x=>.ah 5 (.bw [.ab 1 .str,.rw 6 21 (.int .i32)] (aR [1,2,6] [2] [6]) (fun n=>cT (tT k (x.1) n)) k fun _ _=>.ah 2 (.t (.ah 4 (.cg 2 .z))))) (by kernel_rfl)
noncomputable def Se(k:Nat):aL Tryz.prog an:=⟨133,C7 k,PQ k⟩
noncomputable def Db(k:Nat):aZ:=⟨[ip,(.int .u32),(.int .u32)],[.bool],[],fun x=>ER k (x.1) (x.2.1) (x.2.2)⟩
theorem QU(k:Nat):aY Tryz.prog an 195 (Db k).ba:=bt bq Tryz.func195 (by kernel_rfl) rfl Tryz.ntmps195 (Db k) (by kernel_rfl) [] (fun _=>.ah 2 (.cg 5 .z)) (by kernel_rfl)
noncomputable def Pn(k:Nat):aL Tryz.prog an:=⟨195,Db k,QU k⟩
noncomputable def Ez(k:Nat):aZ:=⟨[ck,(.int .u32),(.int .u32)],[bg,(.int .i64)],[],fun x=>vX k (x.1) (x.2.1) (x.2.2)⟩
theorem SF(k:Nat):aY Tryz.prog an 162 (Ez k).ba:=bt bq Tryz.func162 (by kernel_rfl) rfl Tryz.ntmps162 (Ez k) (by kernel_rfl) [kL k,yV k,Pn k] (fun x=>.ah 6 (.f (.ah 3 (.f (.ah 4 (.bw [.ab 25 (.int .i64),.rw 9 21 (.int .i32)] (aR [1,2,9,23,24,25] [] [9]) (fun n=>cT (s9 k (x.1) (x.2.1) (x.2.2) n)) k fun o O=>.ah 2 (.t (.j [.rw 9 21 (.int .i32)] (aR [1,2,9,23,24,25] [] [9]) (xq (eC o) (O.1)) .z (fun _=>.z))))))))) (by kernel_rfl)
noncomputable def R1(k:Nat):aL Tryz.prog an:=⟨162,Ez k,SF k⟩
noncomputable def BQ(k:Nat):cJ Mf cm where
 n:=36
 S:=fun z=>⟨[(0,xD (z.1)),(1,xD (z.2.1)),(2,.ptr 36 0),(3,.ptr 37 0)],[(36,.cells [.val (.ab .str) (z.2.2.1),.val aq (z.2.2.2.1)] 25),(37,.cells [.ptr 38 0] 212),(38,.cells [bd (z.2.2.2.2.1),.val aq (z.2.2.2.2.2.1),.val bh (z.2.2.2.2.2.2.1),.val au (z.2.2.2.2.2.2.2.1),.val au (z.2.2.2.2.2.2.2.2.1),bO (z.2.2.2.2.2.2.2.2.2.1),aM (z.2.2.2.2.2.2.2.2.2.2.1),.iter 39,.any] 241),(39,.mp bf bi (z.2.2.2.2.2.2.2.2.2.2.2))],[]⟩
 be:=fun z y=>⟨[],[(36,.cells [.val (.ab .str) (z.2.2.1),.val aq (z.2.2.2.1)] 25),(37,.cells [.ptr 38 0] 212),(38,.cells [bd (z.2.2.2.2.1),.val aq (z.2.2.2.2.2.1),.val bh (z.2.2.2.2.2.2.1),.val au (z.2.2.2.2.2.2.2.1),.val au (z.2.2.2.2.2.2.2.2.1),bO (z.2.2.2.2.2.2.2.2.2.1),aM (z.2.2.2.2.2.2.2.2.2.2.1),.iter 39,.any] 241),(39,.mp bf bi (y))],[]⟩
 ar:=fun z y=>[]
 rel:=fun z y=>pV k (z.1) (z.2.1) (z.2.2.1) (z.2.2.2.1) (z.2.2.2.2.1) (z.2.2.2.2.2.1) (z.2.2.2.2.2.2.1) (z.2.2.2.2.2.2.2.1) (z.2.2.2.2.2.2.2.2.1) (z.2.2.2.2.2.2.2.2.2.1) (z.2.2.2.2.2.2.2.2.2.2.1) (z.2.2.2.2.2.2.2.2.2.2.2)=some y
theorem VA(k:Nat):cF Tryz.prog an 161 (BQ k):=fp Tryz.func161 (by kernel_rfl) rfl (BQ k) Tryz.ntmps161 [R1 k] (fun z=>pV k (z.1) (z.2.1) (z.2.2.1) (z.2.2.2.1) (z.2.2.2.2.1) (z.2.2.2.2.2.1) (z.2.2.2.2.2.2.1) (z.2.2.2.2.2.2.2.1) (z.2.2.2.2.2.2.2.2.1) (z.2.2.2.2.2.2.2.2.2.1) (z.2.2.2.2.2.2.2.2.2.2.1) (z.2.2.2.2.2.2.2.2.2.2.2)) (fun _ _ h=>h) (fun st=>bW st [.mp 39 bf bi]) [36,37,38,39] [] (fun z=>.ah 1 (.ac [bg,(.int .i64)] fun v1=>.ah 3 (.bw [.ab 21 (.int .i64),.mp 18 (.int .i32) .bool] (aR [0,1,2,3,8,19,20,21] [18,36,37,38,39] []) (fun n=>cT (tU v1 (z.2.2.2.2.2.2.2.2.2.2.2) (z.1) (z.2.1) n)) k fun _ _=>.z))) (by kernel_rfl)
noncomputable def Gp(k:Nat):dp Tryz.prog an Mf cm:=⟨161,BQ k,fun st=>bW st [.ab 0 (.int .u32),.ab 1 (.int .u32),.ad 36 0 (.ab .str),.ad 36 1 aq,.ad 38 0 .str,.ad 38 1 aq,.ad 38 2 bh,.ad 38 3 au,.ad 38 4 au,.ad 38 5 (.int .u8),.ad 38 6 .bool,.mp 39 bf bi],fun z=>pV k (z.1) (z.2.1) (z.2.2.1) (z.2.2.2.1) (z.2.2.2.2.1) (z.2.2.2.2.2.1) (z.2.2.2.2.2.2.1) (z.2.2.2.2.2.2.2.1) (z.2.2.2.2.2.2.2.2.1) (z.2.2.2.2.2.2.2.2.2.1) (z.2.2.2.2.2.2.2.2.2.2.1) (z.2.2.2.2.2.2.2.2.2.2.2),(VA k),fun _ _ h=>h⟩
noncomputable def Bf(k:Nat):cJ JR iw where
 n:=62
 S:=fun z=>⟨[(0,.val ck (z.1)),(1,.val gR (z.2))],[],[]⟩
 be:=fun z y=>⟨[],[(2,.cells [.val (.ab .str) (y.1),.val aq (y.2.1)] 25),(14,.mp bf bi (y.2.2.1)),(16,.cells [bd (y.2.2.2.1),.val aq (y.2.2.2.2.1),.val bh (y.2.2.2.2.2.1),.val au (y.2.2.2.2.2.2.1),.val au (y.2.2.2.2.2.2.2.1),bO (y.2.2.2.2.2.2.2.2.1),aM (y.2.2.2.2.2.2.2.2.2),.iter 14,.clos 163 [2]] 241)],[]⟩
 ar:=fun z y=>[.ptr 16 0]
 rel:=fun z y=>mB k (z.1) (z.2)=some y
theorem UE(k:Nat):cF Tryz.prog an 134 (Bf k):=fp Tryz.func134 (by kernel_rfl) rfl (Bf k) Tryz.ntmps134 [] (fun z=>mB k (z.1) (z.2)) (fun _ _ h=>h) (fun st=>bW st [.ad 2 0 (.ab .str),.ad 2 1 aq,.mp 14 bf bi,.ad 16 0 .str,.ad 16 1 aq,.ad 16 2 bh,.ad 16 3 au,.ad 16 4 au,.ad 16 5 (.int .u8),.ad 16 6 .bool]) [2,14,16] [] (fun z=>.ah 5 (.bw [.ab 21 (.int .i64),.mp 14 bf bi] (aR [2,3,5,6,19,20,21] [2,3,5,14,16] []) (fun n=>cT (ta k (z.2) (z.1) n)) k fun _ _=>.ah 2 (.c (.ah 3 (.bN (Gp k) [(2,36),(5,37),(16,38),(14,39)] [(36,2),(37,5),(38,16),(39,14)] (fun _=>.z))) (.ah 2 (.bw [.ab 38 (.int .i64),.ad 2 0 (.ab .str),.ad 2 1 aq,.mp 14 bf bi,.ad 16 0 .str,.ad 16 1 aq,.ad 16 2 bh,.ad 16 3 au,.ad 16 4 au,.ad 16 5 (.int .u8),.ad 16 6 .bool,.rw 36 85 ma] (aR [2,5,6,36,37,38] [2,5,14,16] [36]) (fun n=>vN (va k (z.2) n)) k fun O o=>.ah 2 (.t (.ah 2 (.a ma fun U=>.u 0 (.ah 1 (.bw [.ab 45 (.int .i64),.mp 14 bf bi] (aR [2,5,6,36,37,38,43,44,45] [2,5,14,16] [36]) (fun n=>cT (tL k U (o.2.1) (o.2.2.1) (o.2.2.2.2.1) (o.2.2.2.2.2.1) (o.2.2.2.2.2.2.1) (o.2.2.2.2.2.2.2.1) (o.2.2.2.2.2.2.2.2.1) (o.2.2.2.2.2.2.2.2.2.1) (o.2.2.2.2.2.2.2.2.2.2.1) (Cq O) (o.1) (o.2.2.2.2.2.2.2.2.2.2.2) n)) k fun _ _=>.ah 2 (.t (.ah 3 (.bN (Gp k) [(2,36),(5,37),(16,38),(14,39)] [(36,2),(37,5),(38,16),(39,14)] (fun _=>.z)))))))))))))) (by kernel_rfl)
noncomputable def zc(k:Nat):dp Tryz.prog an JR iw:=⟨134,Bf k,fun st=>bW st [.ab 0 ck,.ab 1 gR],fun z=>mB k (z.1) (z.2),(UE k),fun _ _ h=>h⟩
noncomputable def Aa(k:Nat):cJ KC Bool where
 n:=26
 S:=fun z=>⟨[(0,.ptr 26 0),(1,Ko (z.1)),(2,Ko (z.2.1)),(3,xD (z.2.2.1)),(4,xD (z.2.2.2.1))],[(26,.cells [bd (z.2.2.2.2.1),.val aq (z.2.2.2.2.2.1),.val bh (z.2.2.2.2.2.2.1),.val au (z.2.2.2.2.2.2.2.1),.val au (z.2.2.2.2.2.2.2.2.1),bO (z.2.2.2.2.2.2.2.2.2.1),aM (z.2.2.2.2.2.2.2.2.2.2.1),.iter 27,.clos 163 [28]] 241),(27,.mp bf bi (z.2.2.2.2.2.2.2.2.2.2.2.1)),(28,.cells [.val (.ab .str) (z.2.2.2.2.2.2.2.2.2.2.2.2.1),.val aq (z.2.2.2.2.2.2.2.2.2.2.2.2.2)] 25)],[]⟩
 be:=fun z y=>⟨[],[(26,.cells [bd (z.2.2.2.2.1),.val aq (z.2.2.2.2.2.1),.val bh (z.2.2.2.2.2.2.1),.val au (z.2.2.2.2.2.2.2.1),.val au (z.2.2.2.2.2.2.2.2.1),bO (z.2.2.2.2.2.2.2.2.2.1),aM (z.2.2.2.2.2.2.2.2.2.2.1),.iter 27,.clos 163 [28]] 241),(27,.mp bf bi (z.2.2.2.2.2.2.2.2.2.2.2.1)),(28,.cells [.val (.ab .str) (z.2.2.2.2.2.2.2.2.2.2.2.2.1),.val aq (z.2.2.2.2.2.2.2.2.2.2.2.2.2)] 25)],[]⟩
 ar:=fun z y=>[aM (y)]
 rel:=fun z y=>o4 k (z.1) (z.2.1) (z.2.2.1) (z.2.2.2.1) (z.2.2.2.2.1) (z.2.2.2.2.2.1) (z.2.2.2.2.2.2.1) (z.2.2.2.2.2.2.2.1) (z.2.2.2.2.2.2.2.2.1) (z.2.2.2.2.2.2.2.2.2.1) (z.2.2.2.2.2.2.2.2.2.2.1) (z.2.2.2.2.2.2.2.2.2.2.2.1) (z.2.2.2.2.2.2.2.2.2.2.2.2.1) (z.2.2.2.2.2.2.2.2.2.2.2.2.2)=some y
theorem Sj(k:Nat):cF Tryz.prog an 165 (Aa k):=fp Tryz.func165 (by kernel_rfl) rfl (Aa k) Tryz.ntmps165 [] (fun z=>o4 k (z.1) (z.2.1) (z.2.2.1) (z.2.2.2.1) (z.2.2.2.2.1) (z.2.2.2.2.2.1) (z.2.2.2.2.2.2.1) (z.2.2.2.2.2.2.2.1) (z.2.2.2.2.2.2.2.2.1) (z.2.2.2.2.2.2.2.2.2.1) (z.2.2.2.2.2.2.2.2.2.2.1) (z.2.2.2.2.2.2.2.2.2.2.2.1) (z.2.2.2.2.2.2.2.2.2.2.2.2.1) (z.2.2.2.2.2.2.2.2.2.2.2.2.2)) (fun _ _ h=>h) (fun st=>bW st [.ab 0 .bool]) [26,27,28] [] (fun _=>.z) (by kernel_rfl)
noncomputable def Hp(k:Nat):dp Tryz.prog an KC Bool:=⟨165,Aa k,fun st=>bW st [.ab 1 (.int .i32),.ab 2 (.int .i32),.ab 3 (.int .u32),.ab 4 (.int .u32),.ad 26 0 .str,.ad 26 1 aq,.ad 26 2 bh,.ad 26 3 au,.ad 26 4 au,.ad 26 5 (.int .u8),.ad 26 6 .bool,.mp 27 bf bi,.ad 28 0 (.ab .str),.ad 28 1 aq],fun z=>o4 k (z.1) (z.2.1) (z.2.2.1) (z.2.2.2.1) (z.2.2.2.2.1) (z.2.2.2.2.2.1) (z.2.2.2.2.2.2.1) (z.2.2.2.2.2.2.2.1) (z.2.2.2.2.2.2.2.2.1) (z.2.2.2.2.2.2.2.2.2.1) (z.2.2.2.2.2.2.2.2.2.2.1) (z.2.2.2.2.2.2.2.2.2.2.2.1) (z.2.2.2.2.2.2.2.2.2.2.2.2.1) (z.2.2.2.2.2.2.2.2.2.2.2.2.2),(Sj k),fun _ _ h=>h⟩
end Go.Ev
