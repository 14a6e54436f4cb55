/- Contracts, by program. -/
import Derived.Test.YteopobecmacgdaaGreatDoorProg
import Derived.Test.YteopobecmacgdaaGreatDoorMM6
import Derived.Test.YteopobecmacgdaaGreatDoorMM9
import Derived.Test.YteopobecmacgdaaGreatDoorCtLoP1
import Derived.KernelRfl
import Derived.Test.YteopobecmacgdaaGreatDoorTyA
set_option linter.unusedSectionVars false
set_option linter.unusedVariables false
set_option linter.unusedSimpArgs false
namespace Go.Ev
open Go Go.Proofs
set_option linter.unusedVariables false
set_option maxRecDepth 100000
noncomputable def zX(k:Nat):aU:=⟨[.str],[.bool],[],fun x=>FO k x⟩
theorem VN(k:Nat):aV Tryz.prog am 143 (zX k).aW:=bi bf Tryz.func143 (by kernel_rfl) rfl Tryz.ntmps143 (zX k) (by kernel_rfl) [Dq k] (fun _=>.ae 2 (.g 3 Ej .z .z (fun _=>.z))) (by kernel_rfl)
noncomputable def Uo(k:Nat):aF Tryz.prog am:=⟨143,zX k,VN k⟩
noncomputable def zf(k:Nat):aU:=⟨[bP,(.int .i32)],[.bool],[],fun x=>uL k (x.1) (x.2)⟩
theorem R4(k:Nat):aV Tryz.prog am 159 (zf k).aW:=bi bf Tryz.func159 (by kernel_rfl) rfl Tryz.ntmps159 (zf k) (by kernel_rfl) [oV k] (fun _=>.z) (by kernel_rfl)
noncomputable def AA(k:Nat):aF Tryz.prog am:=⟨159,zf k,R4 k⟩
noncomputable def zP(k:Nat):bU (List UInt8×List (Int)) (Option (Option (Nat×Int))×Int×List (Int)) where
 n:=19
 S:=fun z=>⟨[(0,.ptr 19 0),(1,bj (z.1))],[(19,.cells [.eX 19,.row 20] 319)],[(20,⟨5,(.int .u8),(z.2)⟩)]⟩
 bJ:=fun z y=>⟨[],[(19,.cells [.eX 19,.row 20] 319)],[(20,⟨5,(.int .u8),(y.2.2)⟩)]⟩
 ap:=fun z y=>[ax (y.2.1),.val .err (y.1)]
 rel:=fun z y=>p9 k (z.1) (z.2)=some y
theorem Sz(k:Nat):cb Tryz.prog am 199 (zP k):=dr Tryz.func199 (by kernel_rfl) rfl (zP k) Tryz.ntmps199 [] (fun z=>p9 k (z.1) (z.2)) (fun _ _ h=>h) (fun st=>bu st [.ab 1 .err,.ab 0 (.int .i64),.rw 20 5 (.int .u8)]) [19] [20] (fun _=>.ae 2 (.bI (Tv k) [(19,20),(20,21)] [(20,19),(21,20)] (fun _=>.z))) (by kernel_rfl)
noncomputable def GG(k:Nat):cD Tryz.prog am (List UInt8×List (Int)) (Option (Option (Nat×Int))×Int×List (Int)):=⟨199,zP k,fun st=>bu st [.ab 1 .str,.rw 20 5 (.int .u8)],fun z=>p9 k (z.1) (z.2),(Sz k),fun _ _ h=>h⟩
noncomputable def Eg(k:Nat):aU:=⟨[bP,(.int .u32),(.int .u32)],[.str,(.int .i64)],[],fun x=>Aj k (x.1) (x.2.1) (x.2.2)⟩
theorem OH(k:Nat):aV Tryz.prog am 183 (Eg k).aW:=bi bf Tryz.func183 (by kernel_rfl) rfl Tryz.ntmps183 (Eg k) (by kernel_rfl) [ib k,tv k] (fun x=>.ae 5 (.f (.ae 3 (.f (.ae 3 (.bg [.ab 25 (.int .i64),.rw 1000009 5 (.int .u8)] (aB [1,2,9,23,24,25] [9] [1000009]) (fun n=>b7 (Ef k (x.1) (x.2.1) (x.2.2) n)) k fun o q=>.ae 2 (.c (.j [.rw 1000009 5 (.int .u8)] (aB [1,2,9,23,24,25] [9] [1000009]) (tE (dq o) (q.1)) (.ae 3 (.c (.bI (GG k) [(9,19),(1000009,20)] [(19,9),(20,1000009)] (fun _=>.z)) (.ae 1 (.t (.bI (GG k) [(9,19),(1000009,20)] [(19,9),(20,1000009)] (fun _=>.z)))))) (fun _=>.z)) (.ae 1 (.bI (Rq k) [(9,14),(1000009,15)] [] (fun _=>.z)))))))))) (by kernel_rfl)
noncomputable def Hv(k:Nat):aF Tryz.prog am:=⟨183,Eg k,OH k⟩
noncomputable def AG(k:Nat):aU:=⟨[bP,(.int .u32),(.int .u32)],[.bool],[],fun x=>I8 k (x.1) (x.2.1) (x.2.2)⟩
theorem Vy(k:Nat):aV Tryz.prog am 181 (AG k).aW:=bi bf Tryz.func181 (by kernel_rfl) rfl Tryz.ntmps181 (AG k) (by kernel_rfl) [Hv k] (fun _=>.z) (by kernel_rfl)
noncomputable def Ra(k:Nat):aF Tryz.prog am:=⟨181,AG k,Vy k⟩
noncomputable def xk(k:Nat):aU:=⟨[bP,(.int .i32),(.int .u32),(.int .u32)],[.bool],[],fun x=>yo k (x.1) (x.2.1) (x.2.2.1) (x.2.2.2)⟩
theorem UL(k:Nat):aV Tryz.prog am 144 (xk k).aW:=bi bf Tryz.func144 (by kernel_rfl) rfl Tryz.ntmps144 (xk k) (by kernel_rfl) [AA k,Ra k] (fun _=>.ae 3 (.t (.ae 2 (.bh 4 .z)))) (by kernel_rfl)
noncomputable def HO(k:Nat):aF Tryz.prog am:=⟨144,xk k,UL k⟩
noncomputable def Cn(k:Nat):aU:=⟨[bP,nd,(.int .i64)],[.bool],[],fun x=>JH k (x.1) (x.2.1) (x.2.2)⟩
theorem XF(k:Nat):aV Tryz.prog am 145 (Cn k).aW:=bi bf Tryz.func145 (by kernel_rfl) rfl Tryz.ntmps145 (Cn k) (by kernel_rfl) [HO k] (fun x=>.ae 3 (.bh 3 (.iO 14 [.ab 30 .bool] (aB [3,4,30] [3,4] []) (CY k (x.1) (x.2.1)) .z (.ae 4 (.iO 9 [.ab 29 .bool] (aB [3,4,15,29] [3,4] []) (xI k (x.1) (x.2.1)) (.ae 4 (.bh 4 .z)) .z (fun _=>.z))) (fun _=>.z)))) (by kernel_rfl)
noncomputable def R5(k:Nat):aF Tryz.prog am:=⟨145,Cn k,XF k⟩
noncomputable def El(k:Nat):aU:=⟨[(.ab .bool),.bool],[(.int .i64)],[],fun x=>GI k (x.1) (x.2)⟩
theorem NN(k:Nat):aV Tryz.prog am 202 (El k).aW:=bi bf Tryz.func202 (by kernel_rfl) rfl Tryz.ntmps202 (El k) (by kernel_rfl) [] (fun x=>.ae 3 (.bg [.ab 8 (.int .i64)] (aB [0,1,7,8] [] []) (xD (x.1) (x.2)) k fun _ _=>.z)) (by kernel_rfl)
noncomputable def Ni(k:Nat):aF Tryz.prog am:=⟨202,El k,NN k⟩
noncomputable def wg(k:Nat):aU:=⟨[(.ab .bool),.bool],[.bool],[],fun x=>Bj k (x.1) (x.2)⟩
theorem Ux(k:Nat):aV Tryz.prog am 186 (wg k).aW:=bi bf Tryz.func186 (by kernel_rfl) rfl Tryz.ntmps186 (wg k) (by kernel_rfl) [Ni k] (fun _=>.z) (by kernel_rfl)
noncomputable def Jg(k:Nat):aF Tryz.prog am:=⟨186,wg k,Ux k⟩
noncomputable def Bu(k:Nat):aU:=⟨[jv],[.bool],[],fun x=>ye k x⟩
theorem SU(k:Nat):aV Tryz.prog am 182 (Bu k).aW:=bi bf Tryz.func182 (by kernel_rfl) rfl Tryz.ntmps182 (Bu k) (by kernel_rfl) [Jg k] (fun x=>.ae 4 (.bh 2 (.f (.ae 4 (.bg [.ab 23 (.int .i64),.rw 19 4 .bool] (aB [3,4,21,22,23] [] [19]) (fun n=>b7 (yf k x n)) k fun q o=>.ae 2 (.t (.ae 2 (.a gZ fun L=>.j [] (aB [3,4,5,6,21,22,23] [6] [19]) (um (sL k L (o.1) x (dq q) (o.2))) (.ae 1 (.j [.ab 30 .bool] (aB [3,4,5,6,21,22,23,29,30] [6] [19]) (yG k L (o.1) x (dq q) (o.2)) .z (fun _=>.f (.j [.ab 33 .bool] (aB [3,4,5,6,21,22,23,29,33] [6] [19]) (C0 k L (o.1) x (dq q) (o.2)) .z (fun _=>.f (.j [.ab 40 .bool] (aB [3,4,5,6,21,22,23,40] [6] [19]) (ol k L (o.1) x (dq q) (o.2)) .z (fun _=>.z))))))) (fun _=>.ae 2 (.bh 3 (.iO 11 [.ab 70 .bool] (aB [3,4,5,6,21,22,23,70] [6] [19]) (zK k L (o.1) x (dq q) (o.2)) .z (.ae 7 (.bh 3 .z)) (fun _=>.f (.ae 1 (.bg [.ab 74 (.int .i64),.rw 19 4 .bool] (aB [3,4,5,21,22,23,72,73,74] [] [19]) (fun n=>b7 (CP L (o.1) x (dq q) n)) k fun R O=>.ae 2 (.t (.ae 2 (.a (.int .i64) fun U=>.ae 2 (.bh 3 (.g 4 (Df (O.2) U (dq R) (O.1)) .z (.ae 5 (.u 0 .z)) (fun _=>.f (.ae 1 (.u 0 .z)))))))))))))))))))))) (by kernel_rfl)
noncomputable def J7(k:Nat):aF Tryz.prog am:=⟨182,Bu k,SU k⟩
noncomputable def BC(k:Nat):aU:=⟨[bP,jv],[(.int .i64)],[],fun x=>yW k (x.1) (x.2)⟩
theorem St(k:Nat):aV Tryz.prog am 146 (BC k).aW:=bi bf Tryz.func146 (by kernel_rfl) rfl Tryz.ntmps146 (BC k) (by kernel_rfl) [ib k,J7 k,oV k,Hv k] (fun x=>.ae 5 (.f (.ae 3 (.f (.ae 2 (.bg [.ab 23 (.int .i64)] (aB [2,21,22,23] [2] []) (EP k (x.2) (x.1)) k fun o q=>.ae 2 (.t (.j [] (aB [2,21,22,23] [2] []) (um (vJ o q)) .z (fun _=>.z))))))))) (by kernel_rfl)
noncomputable def Vk(k:Nat):aF Tryz.prog am:=⟨146,BC k,St k⟩
noncomputable def Ea(k:Nat):aU:=⟨[bP,gO],[(.int .i64)],[],fun x=>rq k (x.1) (x.2)⟩
theorem Ol(k:Nat):aV Tryz.prog am 115 (Ea k).aW:=bi bf Tryz.func115 (by kernel_rfl) rfl Tryz.ntmps115 (Ea k) (by kernel_rfl) [ib k,Uo k,HO k,R5 k,Vk k] (fun x=>.ae 5 (.f (.ae 3 (.bh 3 (.bh 3 (.bh 4 (.bh 4 (.bh 8 (.f (.ae 2 (.bg [.ab 54 (.int .i64)] (aB [2,3,52,53,54] [2,3] []) (Cb k (x.2) (x.1)) k fun _ _=>.ae 2 (.f (.ae 2 (.bg [.ab 71 (.int .i64)] (aB [2,3,69,70,71] [2,3] []) (BR k (x.2) (x.1)) k fun _ _=>.ae 2 (.f (.ae 3 (.g 5 Dp .z .z (fun _=>.z)))))))))))))))))) (by kernel_rfl)
noncomputable def vL(k:Nat):aF Tryz.prog am:=⟨115,Ea k,Ol k⟩
noncomputable def CK(k:Nat):aU:=⟨[bP,mR],[(.int .i64)],[],fun x=>wX k (x.1) (x.2)⟩
theorem SR(k:Nat):aV Tryz.prog am 81 (CK k).aW:=bi bf Tryz.func81 (by kernel_rfl) rfl Tryz.ntmps81 (CK k) (by kernel_rfl) [ib k,vL k] (fun x=>.ae 5 (.f (.ae 2 (.f (.ae 2 (.bg [.ab 19 (.int .i64)] (aB [2,17,18,19] [2] []) (xx k (x.2) (x.1)) k fun _ _=>.z)))))) (by kernel_rfl)
noncomputable def Jb(k:Nat):aF Tryz.prog am:=⟨81,CK k,SR k⟩
noncomputable def yA(k:Nat):aU:=⟨[(.int .i32)],[.bool],[],fun x=>Le k x⟩
theorem VW(k:Nat):aV Tryz.prog am 124 (yA k).aW:=bi bf Tryz.func124 (by kernel_rfl) rfl Tryz.ntmps124 (yA k) (by kernel_rfl) [] (fun _=>.ae 2 (.bh 2 .z)) (by kernel_rfl)
noncomputable def sB(k:Nat):aF Tryz.prog am:=⟨124,yA k,VW k⟩
noncomputable def w9(k:Nat):aU:=⟨[.str,(.fn 124 .unit),.bool],[(.int .i64)],[],fun x=>Ix k (x.1) (x.2.1) (x.2.2)⟩
theorem VJ(k:Nat):aV Tryz.prog am 191 (w9 k).aW:=bi bf Tryz.func191 (by kernel_rfl) rfl Tryz.ntmps191 (w9 k) (by kernel_rfl) [sB k] (fun x=>.ae 3 (.bg [.it 10] (aB [1,2,10] [10] []) (yO k (x.1) (x.2.2)) k fun _ _=>.ae 1 (.c (.ae 1 (.T .z)) (.ae 1 (.F .z))))) (by kernel_rfl)
noncomputable def Oa(k:Nat):aF Tryz.prog am:=⟨191,w9 k,VJ k⟩
noncomputable def Eb(k:Nat):aU:=⟨[.str,(.fn 124 .unit)],[(.int .i64)],[],fun x=>FR k (x.1) (x.2)⟩
theorem Rg(k:Nat):aV Tryz.prog am 157 (Eb k).aW:=bi bf Tryz.func157 (by kernel_rfl) rfl Tryz.ntmps157 (Eb k) (by kernel_rfl) [sB k,Oa k] (fun _=>.z) (by kernel_rfl)
noncomputable def Vq(k:Nat):aF Tryz.prog am:=⟨157,Eb k,Rg k⟩
noncomputable def Et(k:Nat):aU:=⟨[.str,(.fn 124 .unit)],[.bool],[],fun x=>E1 k (x.1) (x.2)⟩
theorem MI(k:Nat):aV Tryz.prog am 123 (Et k).aW:=bi bf Tryz.func123 (by kernel_rfl) rfl Tryz.ntmps123 (Et k) (by kernel_rfl) [sB k,Vq k] (fun _=>.z) (by kernel_rfl)
noncomputable def P3(k:Nat):aF Tryz.prog am:=⟨123,Et k,MI k⟩
noncomputable def Dl(k:Nat):aU:=⟨[(.ab .str)],[(.int .i64)],[],fun x=>Km k x⟩
theorem XD(k:Nat):aV Tryz.prog am 97 (Dl k).aW:=bi bf Tryz.func97 (by kernel_rfl) rfl Tryz.ntmps97 (Dl k) (by kernel_rfl) [sB k,P3 k] (fun x=>.ae 3 (.f (.ae 3 (.bg [.ab 14 (.int .i64),.mp 11 .str .unit] (aB [3,12,13,14] [11] []) (fun n=>b7 (zH k x n)) k fun q o=>.ae 2 (.t (.ae 2 (.a .str fun L=>.ae 3 (.bh 2 (.bh 3 (.g 2 (CC (dq q) (o.1) (o.2) L) .z .z (fun _=>.z))))))))))) (by kernel_rfl)
noncomputable def R6(k:Nat):aF Tryz.prog am:=⟨97,Dl k,XD k⟩
noncomputable def Ee(k:Nat):aU:=⟨[ki],[(.int .i64)],[],fun x=>Ab k x⟩
theorem V7(k:Nat):aV Tryz.prog am 62 (Ee k).aW:=bi bf Tryz.func62 (by kernel_rfl) rfl Tryz.ntmps62 (Ee k) (by kernel_rfl) [ib k,Ru k,LW k,Jb k,R6 k] (fun x=>.ae 5 (.f (.ae 3 (.bh 8 (.f (.ae 2 (.f (.ae 2 (.bg [.ab 48 (.int .i64)] (aB [1,46,47,48] [1] []) (Au k x) k fun _ _=>.ae 2 (.f (.ae 2 (.f (.ae 2 (.bg [.ab 67 (.int .i64)] (aB [1,65,66,67] [1] []) (Dx k x) k fun _ _=>.ae 2 (.f (.ae 4 (.f (.ae 4 (.f (.ae 2 (.bg [.ab 95 (.int .i64),.ad 1 0 (.ab .str),.ad 1 1 au,.ad 1 2 (.int .u32),.ad 1 3 (.int .u32),.ad 1 4 (.ab r4),.ad 1 5 (.ab (.pair .str (.pair (.int .i64) (.pair .str (.pair (.int .i64) .unit))))),.ad 1 6 mR,.ad 1 7 (.ab .str)] (aB [1,93,94,95] [1] []) (fun n=>WC (Dr k x n)) k fun q o=>.ae 2 (.t (.ae 2 (.a r4 fun L=>.ae 1 (.bg [.ab 102 (.int .i64)] (aB [1,93,94,95,100,101,102] [1] []) (Bq L (o.2.2.2.2.2.2.2.2) (Tb q) (o.1) (o.2.1) (o.2.2.1) (o.2.2.2.1) (o.2.2.2.2.1) (o.2.2.2.2.2.1) (o.2.2.2.2.2.2.1) (o.2.2.2.2.2.2.2.1)) k fun _ _=>.z))))))))))))))))))))))))) (by kernel_rfl)
noncomputable def K9(k:Nat):aF Tryz.prog am:=⟨62,Ee k,V7 k⟩
noncomputable def wR(k:Nat):aU:=⟨[bP,ki,.str],[.str,(.int .i64)],[],fun x=>uc k (x.1) (x.2.1) (x.2.2)⟩
theorem Vb(k:Nat):aV Tryz.prog am 56 (wR k).aW:=bi bf Tryz.func56 (by kernel_rfl) rfl Tryz.ntmps56 (wR k) (by kernel_rfl) [ib k,K9 k,pA k] (fun _=>.z) (by kernel_rfl)
noncomputable def DE(k:Nat):aF Tryz.prog am:=⟨56,wR k,Vb k⟩
noncomputable def Am(k:Nat):aU:=⟨[bP],[gO],[],fun x=>Gl k x⟩
theorem PK(k:Nat):aV Tryz.prog am 117 (Am k).aW:=bi bf Tryz.func117 (by kernel_rfl) rfl Tryz.ntmps117 (Am k) (by kernel_rfl) [] (fun _=>.z) (by kernel_rfl)
noncomputable def S3(k:Nat):aF Tryz.prog am:=⟨117,Am k,PK k⟩
noncomputable def Ch(k:Nat):aU:=⟨[bP,.str],[bl,(.int .i64)],[],fun x=>FD k (x.1) (x.2)⟩
theorem N8(k:Nat):aV Tryz.prog am 125 (Ch k).aW:=bi bf Tryz.func125 (by kernel_rfl) rfl Tryz.ntmps125 (Ch k) (by kernel_rfl) [BK k,AA k] (fun x=>.ae 5 (.bg [.ab 1 .str,.rw 6 21 (.int .i32)] (aB [1,2,6] [2] [6]) (fun n=>b7 (DT k (x.1) n)) k fun _ _=>.ae 2 (.t (.ae 4 (.bh 2 .z))))) (by kernel_rfl)
noncomputable def N3(k:Nat):aF Tryz.prog am:=⟨125,Ch k,N8 k⟩
noncomputable def vU(k:Nat):aU:=⟨[dK,(.int .u32),(.int .u32)],[.bool],[],fun x=>Ij k (x.1) (x.2.1) (x.2.2)⟩
theorem XC(k:Nat):aV Tryz.prog am 138 (vU k).aW:=bi bf Tryz.func138 (by kernel_rfl) rfl Tryz.ntmps138 (vU k) (by kernel_rfl) [] (fun _=>.ae 2 (.bh 5 .z)) (by kernel_rfl)
noncomputable def Q3(k:Nat):aF Tryz.prog am:=⟨138,vU k,XC k⟩
noncomputable def yb(k:Nat):aU:=⟨[bP,(.int .u32),(.int .u32)],[bl,(.int .i64)],[],fun x=>E4 k (x.1) (x.2.1) (x.2.2)⟩
theorem W0(k:Nat):aV Tryz.prog am 110 (yb k).aW:=bi bf Tryz.func110 (by kernel_rfl) rfl Tryz.ntmps110 (yb k) (by kernel_rfl) [ib k,tv k,Q3 k] (fun x=>.ae 6 (.f (.ae 3 (.f (.ae 4 (.bg [.ab 25 (.int .i64),.rw 9 21 (.int .i32)] (aB [1,2,9,23,24,25] [] [9]) (fun n=>b7 (Ed k (x.1) (x.2.1) (x.2.2) n)) k fun o q=>.ae 2 (.t (.j [.rw 9 21 (.int .i32)] (aB [1,2,9,23,24,25] [] [9]) (wP (dq o) (q.1)) .z (fun _=>.z))))))))) (by kernel_rfl)
noncomputable def XH(k:Nat):aF Tryz.prog am:=⟨110,yb k,W0 k⟩
noncomputable def Es(k:Nat):bU KI cq where
 n:=36
 S:=fun z=>⟨[(0,ft (z.1)),(1,ft (z.2.1)),(2,.ptr 36 0),(3,.ptr 37 0)],[(36,.cells [.val (.ab .str) (z.2.2.1),.val au (z.2.2.2.1)] 25),(37,.cells [.ptr 38 0] 240),(38,.cells [bj (z.2.2.2.2.1),.val au (z.2.2.2.2.2.1),.val bn (z.2.2.2.2.2.2.1),.val av (z.2.2.2.2.2.2.2.1),.val av (z.2.2.2.2.2.2.2.2.1),bR (z.2.2.2.2.2.2.2.2.2.1),aY (z.2.2.2.2.2.2.2.2.2.2.1),.iter 39,.any] 280),(39,.mp bk bo (z.2.2.2.2.2.2.2.2.2.2.2))],[]⟩
 bJ:=fun z y=>⟨[],[(36,.cells [.val (.ab .str) (z.2.2.1),.val au (z.2.2.2.1)] 25),(37,.cells [.ptr 38 0] 240),(38,.cells [bj (z.2.2.2.2.1),.val au (z.2.2.2.2.2.1),.val bn (z.2.2.2.2.2.2.1),.val av (z.2.2.2.2.2.2.2.1),.val av (z.2.2.2.2.2.2.2.2.1),bR (z.2.2.2.2.2.2.2.2.2.1),aY (z.2.2.2.2.2.2.2.2.2.2.1),.iter 39,.any] 280),(39,.mp bk bo (y))],[]⟩
 ap:=fun z y=>[]
 rel:=fun z y=>qC k (z.1) (z.2.1) (z.2.2.1) (z.2.2.2.1) (z.2.2.2.2.1) (z.2.2.2.2.2.1) (z.2.2.2.2.2.2.1) (z.2.2.2.2.2.2.2.1) (z.2.2.2.2.2.2.2.2.1) (z.2.2.2.2.2.2.2.2.2.1) (z.2.2.2.2.2.2.2.2.2.2.1) (z.2.2.2.2.2.2.2.2.2.2.2)=some y
theorem O9(k:Nat):cb Tryz.prog am 160 (Es k):=dr Tryz.func160 (by kernel_rfl) rfl (Es k) Tryz.ntmps160 [XH k] (fun z=>qC k (z.1) (z.2.1) (z.2.2.1) (z.2.2.2.1) (z.2.2.2.2.1) (z.2.2.2.2.2.1) (z.2.2.2.2.2.2.1) (z.2.2.2.2.2.2.2.1) (z.2.2.2.2.2.2.2.2.1) (z.2.2.2.2.2.2.2.2.2.1) (z.2.2.2.2.2.2.2.2.2.2.1) (z.2.2.2.2.2.2.2.2.2.2.2)) (fun _ _ h=>h) (fun st=>bu st [.mp 39 bk bo]) [36,37,38,39] [] (fun z=>.ae 1 (.ac [bl,(.int .i64)] fun v1=>.ae 3 (.bg [.ab 21 (.int .i64),.mp 18 (.int .i32) .bool] (aB [0,1,2,3,8,19,20,21] [18,36,37,38,39] []) (fun n=>b7 (Cz v1 (z.2.2.2.2.2.2.2.2.2.2.2) (z.1) (z.2.1) n)) k fun _ _=>.z))) (by kernel_rfl)
noncomputable def Kk(k:Nat):cD Tryz.prog am KI cq:=⟨160,Es k,fun st=>bu st [.ab 0 (.int .u32),.ab 1 (.int .u32),.ad 36 0 (.ab .str),.ad 36 1 au,.ad 38 0 .str,.ad 38 1 au,.ad 38 2 bn,.ad 38 3 av,.ad 38 4 av,.ad 38 5 (.int .u8),.ad 38 6 .bool,.mp 39 bk bo],fun z=>qC k (z.1) (z.2.1) (z.2.2.1) (z.2.2.2.1) (z.2.2.2.2.1) (z.2.2.2.2.2.1) (z.2.2.2.2.2.2.1) (z.2.2.2.2.2.2.2.1) (z.2.2.2.2.2.2.2.2.1) (z.2.2.2.2.2.2.2.2.2.1) (z.2.2.2.2.2.2.2.2.2.2.1) (z.2.2.2.2.2.2.2.2.2.2.2),(O9 k),fun _ _ h=>h⟩
noncomputable def vS(k:Nat):bU Im gN where
 n:=62
 S:=fun z=>⟨[(0,.val bP (z.1)),(1,.val gO (z.2))],[],[]⟩
 bJ:=fun z y=>⟨[],[(2,.cells [.val (.ab .str) (y.1),.val au (y.2.1)] 25),(14,.mp bk bo (y.2.2.1)),(16,.cells [bj (y.2.2.2.1),.val au (y.2.2.2.2.1),.val bn (y.2.2.2.2.2.1),.val av (y.2.2.2.2.2.2.1),.val av (y.2.2.2.2.2.2.2.1),bR (y.2.2.2.2.2.2.2.2.1),aY (y.2.2.2.2.2.2.2.2.2),.iter 14,.clos 161 [2]] 280)],[]⟩
 ap:=fun z y=>[.ptr 16 0]
 rel:=fun z y=>jF k (z.1) (z.2)=some y
theorem Tx(k:Nat):cb Tryz.prog am 126 (vS k):=dr Tryz.func126 (by kernel_rfl) rfl (vS k) Tryz.ntmps126 [] (fun z=>jF k (z.1) (z.2)) (fun _ _ h=>h) (fun st=>bu st [.ad 2 0 (.ab .str),.ad 2 1 au,.mp 14 bk bo,.ad 16 0 .str,.ad 16 1 au,.ad 16 2 bn,.ad 16 3 av,.ad 16 4 av,.ad 16 5 (.int .u8),.ad 16 6 .bool]) [2,14,16] [] (fun z=>.ae 5 (.bg [.ab 21 (.int .i64),.mp 14 bk bo] (aB [2,3,5,6,19,20,21] [2,3,5,14,16] []) (fun n=>b7 (Aq k (z.2) (z.1) n)) k fun _ _=>.ae 2 (.c (.ae 3 (.bI (Kk k) [(2,36),(5,37),(16,38),(14,39)] [(36,2),(37,5),(38,16),(39,14)] (fun _=>.z))) (.ae 2 (.bg [.ab 38 (.int .i64),.ad 2 0 (.ab .str),.ad 2 1 au,.mp 14 bk bo,.ad 16 0 .str,.ad 16 1 au,.ad 16 2 bn,.ad 16 3 av,.ad 16 4 av,.ad 16 5 (.int .u8),.ad 16 6 .bool,.rw 36 58 jv] (aB [2,5,6,36,37,38] [2,5,14,16] [36]) (fun n=>ug (Dd k (z.2) n)) k fun q o=>.ae 2 (.t (.ae 2 (.a jv fun L=>.u 0 (.ae 1 (.bg [.ab 45 (.int .i64),.mp 14 bk bo] (aB [2,5,6,36,37,38,43,44,45] [2,5,14,16] [36]) (fun n=>b7 (BY k L (o.2.1) (o.2.2.1) (o.2.2.2.2.1) (o.2.2.2.2.2.1) (o.2.2.2.2.2.2.1) (o.2.2.2.2.2.2.2.1) (o.2.2.2.2.2.2.2.2.1) (o.2.2.2.2.2.2.2.2.2.1) (o.2.2.2.2.2.2.2.2.2.2.1) (zv q) (o.1) (o.2.2.2.2.2.2.2.2.2.2.2) n)) k fun _ _=>.ae 2 (.t (.ae 3 (.bI (Kk k) [(2,36),(5,37),(16,38),(14,39)] [(36,2),(37,5),(38,16),(39,14)] (fun _=>.z)))))))))))))) (by kernel_rfl)
noncomputable def mQ(k:Nat):cD Tryz.prog am Im gN:=⟨126,vS k,fun st=>bu st [.ab 0 bP,.ab 1 gO],fun z=>jF k (z.1) (z.2),(Tx k),fun _ _ h=>h⟩
noncomputable def zV(k:Nat):bU II Bool where
 n:=26
 S:=fun z=>⟨[(0,.ptr 26 0),(1,jB (z.1)),(2,jB (z.2.1)),(3,ft (z.2.2.1)),(4,ft (z.2.2.2.1))],[(26,.cells [bj (z.2.2.2.2.1),.val au (z.2.2.2.2.2.1),.val bn (z.2.2.2.2.2.2.1),.val av (z.2.2.2.2.2.2.2.1),.val av (z.2.2.2.2.2.2.2.2.1),bR (z.2.2.2.2.2.2.2.2.2.1),aY (z.2.2.2.2.2.2.2.2.2.2.1),.iter 27,.clos 161 [28]] 280),(27,.mp bk bo (z.2.2.2.2.2.2.2.2.2.2.2.1)),(28,.cells [.val (.ab .str) (z.2.2.2.2.2.2.2.2.2.2.2.2.1),.val au (z.2.2.2.2.2.2.2.2.2.2.2.2.2)] 25)],[]⟩
 bJ:=fun z y=>⟨[],[(26,.cells [bj (z.2.2.2.2.1),.val au (z.2.2.2.2.2.1),.val bn (z.2.2.2.2.2.2.1),.val av (z.2.2.2.2.2.2.2.1),.val av (z.2.2.2.2.2.2.2.2.1),bR (z.2.2.2.2.2.2.2.2.2.1),aY (z.2.2.2.2.2.2.2.2.2.2.1),.iter 27,.clos 161 [28]] 280),(27,.mp bk bo (z.2.2.2.2.2.2.2.2.2.2.2.1)),(28,.cells [.val (.ab .str) (z.2.2.2.2.2.2.2.2.2.2.2.2.1),.val au (z.2.2.2.2.2.2.2.2.2.2.2.2.2)] 25)],[]⟩
 ap:=fun z y=>[aY (y)]
 rel:=fun z y=>qW k (z.1) (z.2.1) (z.2.2.1) (z.2.2.2.1) (z.2.2.2.2.1) (z.2.2.2.2.2.1) (z.2.2.2.2.2.2.1) (z.2.2.2.2.2.2.2.1) (z.2.2.2.2.2.2.2.2.1) (z.2.2.2.2.2.2.2.2.2.1) (z.2.2.2.2.2.2.2.2.2.2.1) (z.2.2.2.2.2.2.2.2.2.2.2.1) (z.2.2.2.2.2.2.2.2.2.2.2.2.1) (z.2.2.2.2.2.2.2.2.2.2.2.2.2)=some y
theorem VF(k:Nat):cb Tryz.prog am 184 (zV k):=dr Tryz.func184 (by kernel_rfl) rfl (zV k) Tryz.ntmps184 [] (fun z=>qW k (z.1) (z.2.1) (z.2.2.1) (z.2.2.2.1) (z.2.2.2.2.1) (z.2.2.2.2.2.1) (z.2.2.2.2.2.2.1) (z.2.2.2.2.2.2.2.1) (z.2.2.2.2.2.2.2.2.1) (z.2.2.2.2.2.2.2.2.2.1) (z.2.2.2.2.2.2.2.2.2.2.1) (z.2.2.2.2.2.2.2.2.2.2.2.1) (z.2.2.2.2.2.2.2.2.2.2.2.2.1) (z.2.2.2.2.2.2.2.2.2.2.2.2.2)) (fun _ _ h=>h) (fun st=>bu st [.ab 0 .bool]) [26,27,28] [] (fun _=>.z) (by kernel_rfl)
noncomputable def HV(k:Nat):cD Tryz.prog am II Bool:=⟨184,zV k,fun st=>bu st [.ab 1 (.int .i32),.ab 2 (.int .i32),.ab 3 (.int .u32),.ab 4 (.int .u32),.ad 26 0 .str,.ad 26 1 au,.ad 26 2 bn,.ad 26 3 av,.ad 26 4 av,.ad 26 5 (.int .u8),.ad 26 6 .bool,.mp 27 bk bo,.ad 28 0 (.ab .str),.ad 28 1 au],fun z=>qW k (z.1) (z.2.1) (z.2.2.1) (z.2.2.2.1) (z.2.2.2.2.1) (z.2.2.2.2.2.1) (z.2.2.2.2.2.2.1) (z.2.2.2.2.2.2.2.1) (z.2.2.2.2.2.2.2.2.1) (z.2.2.2.2.2.2.2.2.2.1) (z.2.2.2.2.2.2.2.2.2.2.1) (z.2.2.2.2.2.2.2.2.2.2.2.1) (z.2.2.2.2.2.2.2.2.2.2.2.2.1) (z.2.2.2.2.2.2.2.2.2.2.2.2.2),(VF k),fun _ _ h=>h⟩
end Go.Ev
