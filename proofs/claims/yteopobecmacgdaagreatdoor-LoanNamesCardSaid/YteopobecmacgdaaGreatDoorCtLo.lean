/- Contracts, by program. -/
import Derived.Test.YteopobecmacgdaaGreatDoorProg
import Derived.Test.YteopobecmacgdaaGreatDoorMM6
import Derived.Test.YteopobecmacgdaaGreatDoorMM9
import Derived.Test.YteopobecmacgdaaGreatDoorCtLoP1
import Derived.Test.YteopobecmacgdaaGreatDoorCtLoP2
import Derived.Test.YteopobecmacgdaaGreatDoorCtLoP3
import Derived.Test.YteopobecmacgdaaGreatDoorCtLoP4
import Derived.Test.YteopobecmacgdaaGreatDoorCtLoP5
import Derived.Test.YteopobecmacgdaaGreatDoorCtLoP6
import Derived.Test.YteopobecmacgdaaGreatDoorCtLoP7
import Derived.Test.YteopobecmacgdaaGreatDoorCtLoP8
import Derived.Test.YteopobecmacgdaaGreatDoorCtLoP9
import Derived.KernelRfl
import Derived.Test.YteopobecmacgdaaGreatDoorTyA
set_option linter.unusedSectionVars false
set_option linter.unusedVariables false
set_option linter.unusedSimpArgs false
namespace Go.Ev
open Go Go.Proofs
set_option linter.unusedVariables false
set_option maxRecDepth 100000
noncomputable def yD(k:Nat):bP mm ay where
 n:=38
 S:=fun z=>⟨[(0,.row 10000000),(1,ax (z.1)),(2,ax (z.2.1)),(3,ax (z.2.2.1)),(4,.clos 61 [])],[],[(10000000,⟨140,cG,(z.2.2.2)⟩)]⟩
 bE:=fun z y=>⟨[],[],[(10000000,⟨140,cG,(y)⟩)]⟩
 ap:=fun z y=>[]
 rel:=fun z y=>nz k (z.1) (z.2.1) (z.2.2.1) (z.2.2.2)=some y
theorem MV(k:Nat):bZ Tryz.prog am 190 (yD k):=de Tryz.func190 (by kernel_rfl) rfl (yD k) Tryz.ntmps190 [] (fun z=>nz k (z.1) (z.2.1) (z.2.2.1) (z.2.2.2)) (fun _ _ h=>h) (fun st=>bp st [.rw 10000000 140 cG]) [] [10000000] (fun z=>.ae 1 (.be [.ab 10 (.int .i64),.rw 10000000 140 cG] (az [0,1,2,3,4,10] [] [10000000]) (fun n=>bY (ux (z.2.2.1) (z.2.1) (z.1) n)) k fun _ _=>.ae 2 (.t (.ae 1 (.fl [0,1,2,3,4,5,6,7,8,9,10,11,12,14,15,16,17,18] [13,19,20] [21,22,23] (.ae 2 (.u 1 (.u 0 (.u 0 (.u 0 (.ae 1 (.u 0 .z)))))))))))) (by kernel_rfl)
noncomputable def vh(k:Nat):cn Tryz.prog am mm ay:=⟨190,yD k,fun st=>bp st [.ab 1 (.int .i64),.ab 2 (.int .i64),.ab 3 (.int .i64),.rw 10000000 140 cG],fun z=>nz k (z.1) (z.2.1) (z.2.2.1) (z.2.2.2),(MV k),fun _ _ h=>h⟩
noncomputable def zR(k:Nat):bP mm ay where
 n:=58
 S:=fun z=>⟨[(0,.row 10000000),(1,ax (z.1)),(2,ax (z.2.1)),(3,ax (z.2.2.1)),(4,.clos 61 [])],[],[(10000000,⟨140,cG,(z.2.2.2)⟩)]⟩
 bE:=fun z y=>⟨[],[],[(10000000,⟨140,cG,(y)⟩)]⟩
 ap:=fun z y=>[]
 rel:=fun z y=>qP k (z.1) (z.2.1) (z.2.2.1) (z.2.2.2)=some y
theorem SW(k:Nat):bZ Tryz.prog am 155 (zR k):=de Tryz.func155 (by kernel_rfl) rfl (zR k) Tryz.ntmps155 [] (fun z=>qP k (z.1) (z.2.1) (z.2.2.1) (z.2.2.2)) (fun _ _ h=>h) (fun st=>bp st [.rw 10000000 140 cG]) [] [10000000] (fun z=>.ae 3 (.be [.ab 10 (.int .i64),.ab 11 (.int .i64),.rw 10000000 140 cG] (az [0,2,4,10,11] [] [10000000]) (fun n=>fK (y8 k (z.2.1) n)) k fun _ _=>.ae 2 (.c (.ae 1 (.c (.ae 1 (.bG (vh k) [(10000000,10000000)] [(10000000,10000000)] (fun _=>.z))) (.ae 1 (.bG (vh k) [(10000000,10000000)] [(10000000,10000000)] (fun _=>.z))))) (.bG (vh k) [(10000000,10000000)] [(10000000,10000000)] (fun _=>.z))))) (by kernel_rfl)
noncomputable def KF(k:Nat):cn Tryz.prog am mm ay:=⟨155,zR k,fun st=>bp st [.ab 1 (.int .i64),.ab 2 (.int .i64),.ab 3 (.int .i64),.rw 10000000 140 cG],fun z=>qP k (z.1) (z.2.1) (z.2.2.1) (z.2.2.2),(SW k),fun _ _ h=>h⟩
noncomputable def qG(k:Nat):bP mm ay where
 n:=220
 S:=fun z=>⟨[(0,.row 10000000),(1,ax (z.1)),(2,ax (z.2.1)),(3,ax (z.2.2.1)),(4,.clos 61 [])],[],[(10000000,⟨140,cG,(z.2.2.2)⟩)]⟩
 bE:=fun z y=>⟨[],[],[(10000000,⟨140,cG,(y)⟩)]⟩
 ap:=fun z y=>[]
 rel:=fun z y=>iq k (z.1) (z.2.1) (z.2.2.1) (z.2.2.2)=some y
noncomputable def Cq(k:Nat)(h:bZ Tryz.prog am 121 (qG k)):cn Tryz.prog am mm ay:=⟨121,qG k,fun st=>bp st [.ab 1 (.int .i64),.ab 2 (.int .i64),.ab 3 (.int .i64),.rw 10000000 140 cG],fun z=>iq k (z.1) (z.2.1) (z.2.2.1) (z.2.2.2),h,fun _ _ h=>h⟩
theorem vA:∀k:Nat,bZ Tryz.prog am 121 (qG k)
 |0=>zS Tryz.func121 (by kernel_rfl) rfl _ fun _ _ h=>nomatch (show(none:Option _)=some _ from h)
 |k+1=>de Tryz.func121 (by kernel_rfl) rfl (qG (k+1)) Tryz.ntmps121 [FD k] (fun z=>iq (k+1) (z.1) (z.2.1) (z.2.2.1) (z.2.2.2)) (fun _ _ h=>h) (fun st=>bp st [.rw 10000000 140 cG]) [] [10000000] (fun z=>.ae 2 (.c (.ae 3 (.be [.ab 10 (.int .i64),.ab 11 (.int .i64)] (az [0,1,4,10,11] [] [10000000]) (fun n=>bY (yA k (z.2.2.2) (z.1) n)) k fun _ q=>.ae 2 (.c (.ae 4 (.u 0 (.ae 1 (.u 0 .z)))) (.ae 2 (.be [.ab 13 (.int .i64),.rw 10000000 140 cG] (az [0,4,10,13] [] [10000000]) (fun n=>bY (uA (q.1) n)) k fun _ _=>.ae 2 (.t (.ae 1 (.fl [0,1,2,3,4,5,6,7,8,10,11,12] [9,13,14] [15,16,17] (.ae 2 (.u 1 (.u 0 (.u 0 (.u 0 (.ae 1 (.u 0 .z))))))))))))))) (.ae 2 (.c (.ae 3 (.be [.ab 14 (.int .i64),.ab 15 (.int .i64)] (az [0,2,4,14,15] [] [10000000]) (fun n=>bY (w4 k (z.2.2.2) (z.2.1) n)) k fun _ L=>.ae 2 (.c (.ae 4 (.u 0 (.ae 1 (.u 0 .z)))) (.ae 2 (.be [.ab 17 (.int .i64),.rw 10000000 140 cG] (az [0,4,14,17] [] [10000000]) (fun n=>bY (vn (L.1) n)) k fun _ _=>.ae 2 (.t (.ae 1 (.fl [0,1,2,3,4,5,6,7,8,10,11,12] [9,13,14] [15,16,17] (.ae 2 (.u 1 (.u 0 (.u 0 (.u 0 (.ae 1 (.u 0 .z))))))))))))))) (.ae 3 (.j [.ab 20 (.int .i64),.ab 21 (.int .i64)] (az [0,1,2,3,4,18,19,20,21] [] [10000000]) (bY (tM k (z.2.2.2) (z.1) (z.2.2.1) (z.2.1) (iq k))) .z (fun _=>.ae 2 (.be [.ab 20 (.int .i64),.ab 21 (.int .i64)] (az [0,1,2,3,4,18,19,20,21,22] [] [10000000]) (fun n=>bY (Ca k (z.2.2.2) (z.1) (z.2.2.1) (z.2.1) (iq k) n)) k fun _ o=>.ae 2 (.c (.ae 4 (.u 0 (.ae 1 (.u 0 .z)))) (.ae 1 (.j [.rw 10000000 140 cG] (az [0,1,3,4,18,20,24] [] [10000000]) (ud (iq k) (z.1) (o.1) (z.2.2.1) (z.2.1)) (.ae 1 (.bf 3 (.t (.bG (KF k) [(10000000,10000000)] [(10000000,10000000)] (fun _=>.z))))) (fun _=>.j [.rw 10000000 140 cG] (az [0,3,4,18,24] [] [10000000]) (CZ (iq k) (z.1) (z.2.2.1) (z.2.1) (o.1)) (.ae 1 (.bf 3 (.t (.bG (Cq k (vA k)) [(10000000,10000000)] [(10000000,10000000)] (fun _=>.z))))) (fun _=>.ae 1 (.bf 3 (.t (.bG (Cq k (vA k)) [(10000000,10000000)] [(10000000,10000000)] (fun _=>.z))))))))))))))))) (by kernel_rfl)
noncomputable def FT(k:Nat):cn Tryz.prog am mm ay:=Cq k (vA k)
noncomputable def CY(k:Nat):bP (Int×List bw) ay where
 n:=63
 S:=fun z=>⟨[(0,.row 10000000),(1,ax (z.1)),(2,.clos 61 [])],[],[(10000000,⟨140,cG,(z.2)⟩)]⟩
 bE:=fun z y=>⟨[],[],[(10000000,⟨140,cG,(y)⟩)]⟩
 ap:=fun z y=>[]
 rel:=fun z y=>se k (z.1) (z.2)=some y
theorem N2(k:Nat):bZ Tryz.prog am 95 (CY k):=de Tryz.func95 (by kernel_rfl) rfl (CY k) Tryz.ntmps95 [] (fun z=>se k (z.1) (z.2)) (fun _ _ h=>h) (fun st=>bp st [.rw 10000000 140 cG]) [] [10000000] (fun z=>.ae 3 (.be [.ab 7 (.int .i64),.ab 8 (.int .i64),.rw 10000000 140 cG] (az [0,1,2,6,7,8] [] [10000000]) (fun n=>fK (AP k (z.1) n)) k fun _ _=>.ae 2 (.c (.ae 1 (.bG (Df k) [(10000000,10000000)] [(10000000,10000000)] (fun _=>.z))) (.ae 1 (.bG (Df k) [(10000000,10000000)] [(10000000,10000000)] (fun _=>.be [.ab 6 (.int .i64),.rw 10000000 140 cG] (az [0,1,2,6] [] [10000000]) (fun n=>bY (tr k (z.1) n)) k fun o q=>.ae 2 (.t (.ae 2 (.be [.ab 7 (.int .i64),.ab 8 (.int .i64),.rw 10000000 140 cG] (az [0,1,2,6,7,8] [] [10000000]) (fun n=>fK (vB k (z.1) (q.1) (dh o) n)) k fun _ _=>.ae 2 (.c (.ae 1 (.bG (FT k) [(10000000,10000000)] [(10000000,10000000)] (fun _=>.z))) (.j [.rw 10000000 140 cG] (az [0,1,2,6] [] [10000000]) (tC (dh o) (q.1)) (.ae 2 (.t (.bG (FT k) [(10000000,10000000)] [(10000000,10000000)] (fun _=>.z)))) (fun _=>.z)))))))))))) (by kernel_rfl)
noncomputable def PE(k:Nat):cn Tryz.prog am (Int×List bw) ay:=⟨95,CY k,fun st=>bp st [.ab 1 (.int .i64),.rw 10000000 140 cG],fun z=>se k (z.1) (z.2),(N2 k),fun _ _ h=>h⟩
noncomputable def vM(k:Nat):bP ay ay where
 n:=9
 S:=fun z=>⟨[(0,.row 10000000),(1,.clos 61 [])],[],[(10000000,⟨140,cG,(z)⟩)]⟩
 bE:=fun z y=>⟨[],[],[(10000000,⟨140,cG,(y)⟩)]⟩
 ap:=fun z y=>[]
 rel:=fun z y=>tl k (z)=some y
theorem Js(k:Nat):bZ Tryz.prog am 60 (vM k):=de Tryz.func60 (by kernel_rfl) rfl (vM k) Tryz.ntmps60 [] (fun z=>tl k (z)) (fun _ _ h=>h) (fun st=>bp st [.rw 10000000 140 cG]) [] [10000000] (fun _=>.bG (PE k) [(10000000,10000000)] [(10000000,10000000)] (fun _=>.z)) (by kernel_rfl)
noncomputable def JC(k:Nat):cn Tryz.prog am ay ay:=⟨60,vM k,fun st=>bp st [.rw 10000000 140 cG],fun z=>tl k (z),(Js k),fun _ _ h=>h⟩
noncomputable def yb(k:Nat):aQ:=⟨[bI,jT,(.ab .str),.str],[eM,eM,(.int .i64)],[],fun x=>oD k (x.1) (x.2.1) (x.2.2.1) (x.2.2.2)⟩
theorem I4(k:Nat):aR Tryz.prog am 28 (yb k).aS:=HB bd Tryz.func28 (by kernel_rfl) rfl Tryz.ntmps28 (yb k) (by kernel_rfl) [BL k,nX k,oz k,DZ k,TW k] [(4,4),(5,5),(8,123),(9,124),(10,122),(1000008,1000008),(1000009,1000009)] (fun x=>.ae 4 (.c (.gy (kQ k) [(122,5),(123,6),(124,7)] [(5,122),(6,123),(7,124)]) (.ae 2 (.c (.ae 1 (.gy (kQ k) [(122,5),(123,6),(124,7)] [(5,122),(6,123),(7,124)])) (.ae 2 (.be [.ab 37 (.int .i64),.ad 122 0 (.int .i64)] (az [2,3,4,5,8,9,10,35,36,37] [4,5,122,123,124] [1000008,1000009]) (fun n=>bY (xe k (x.2.2.1) (x.1) (x.2.1) (x.2.2.2) n)) k fun _ _=>.ae 2 (.c (.ae 6 (.t (.gy (kQ k) [(122,5),(123,6),(124,7)] [(5,122),(6,123),(7,124)]))) (.ae 4 (.c (.gy (kQ k) [(122,5),(123,6),(124,7)] [(5,122),(6,123),(7,124)]) (.ae 4 (.be [.ab 55 (.int .i64),.ad 122 0 (.int .i64),.rw 13 140 cG] (az [3,4,5,8,9,10,13,53,54,55] [4,5,122,123,124] [13,1000008,1000009]) (fun n=>fK (Bi k (x.2.2.1) (x.1) (x.2.1) (x.2.2.2) n)) k fun o q=>.ae 2 (.c (.j [.ad 122 0 (.int .i64),.rw 13 140 cG] (az [3,4,5,8,9,10,13,53,54,55] [4,5,122,123,124] [13,1000008,1000009]) (bY (wy (fW o) (q.1))) (.ae 9 (.c (.gy (kQ k) [(122,5),(123,6),(124,7)] [(5,122),(6,123),(7,124)]) (.ae 4 (.c (.gy (kQ k) [(122,5),(123,6),(124,7)] [(5,122),(6,123),(7,124)]) (.ae 2 (.f (.ae 5 (.t (.gy (kQ k) [(122,5),(123,6),(124,7)] [(5,122),(6,123),(7,124)]))))))))) (fun _=>.z)) (.ae 1 (.bG (JC k) [(13,10000000)] [(10000000,13)] (fun L=>.ae 2 (.be [.ab 105 (.int .i64),.rw 1000008 3 (.int .i64),.rw 1000009 3 (.int .i64)] (az [8,9,10,103,104,105] [122,123,124] [13,1000008,1000009]) (fun n=>fK (yo k L n)) k fun _ _=>.ae 2 (.c (.ae 3 (.u 0 .z)) (.ae 1 (.cS [[],[0],[1],[1,0],[2,0],[2,1,0],[3,2,1,0],[4,3,2,1,0]] (.gy (kQ k) [(122,5),(123,6),(124,7)] [(5,122),(6,123),(7,124)])))))))))))))))))))) (by kernel_rfl)
noncomputable def EM(k:Nat):aD Tryz.prog am:=⟨28,yb k,I4 k⟩
noncomputable def AL(k:Nat):aQ:=⟨[jT,.str],[(.ab .str),(.int .i64)],[],fun x=>yi k (x.1) (x.2)⟩
theorem JE(k:Nat):aR Tryz.prog am 29 (AL k).aS:=bh bd Tryz.func29 (by kernel_rfl) rfl Tryz.ntmps29 (AL k) (by kernel_rfl) [Hj k,nX k,Gj k,Hw k] (fun x=>.ae 6 (.f (.ae 4 (.f (.ae 4 (.be [.ab 28 (.int .i64),.rw 8 9 .str] (az [1,2,8,27,28] [2] [8]) (fun n=>bY (xi k (x.1) (x.2) n)) k fun o q=>.ae 2 (.t (.j [.rw 8 9 .str] (az [1,2,8,27,28] [2] [8]) (Ah (dh o) (q.1)) .z (fun _=>.z))))))))) (by kernel_rfl)
noncomputable def Du(k:Nat):aD Tryz.prog am:=⟨29,AL k,JE k⟩
noncomputable def zm(k:Nat):aQ:=⟨[],[.bool],[],fun _=>w3 k⟩
theorem LY(k:Nat):aR Tryz.prog am 21 (zm k).aS:=bh bd Tryz.func21 (by kernel_rfl) rfl Tryz.ntmps21 (zm k) (by kernel_rfl) [FY k,EI k,oz k,Hl k,GC k,EM k,Du k] (fun _=>.ae 10 (.fN [1,2,3,4,5,6] [1,2] [] (.ae 2 (.ac [eM,(.int .i64)] fun L=>.ae 1 (.ac [eM,eM,(.int .i64)] fun q=>.ae 1 (.fN [1,2,3,4,5,6,7,8,9,10,11,12,13] [1,2] [] (.ac [(.ab .str),(.int .i64)] fun o=>.ae 4 (.bf 2 (.bf 2 (.bf 2 (.bf 2 (.bf 2 (.bf 2 (.bf 3 (.bf 3 (.bf 3 (.bf 3 (.f (.ae 1 (.bf 2 (.bf 2 (.g 4 (tD L q o) .z .z (fun _=>.g 4 (wK q o) .z .z (fun _=>.g 4 (xc q o) .z .z (fun _=>.g 4 (Bv o) .z .z (fun _=>.g 4 (yQ o) .z .z (fun _=>.g 4 uQ .z .z (fun _=>.z)))))))))))))))))))))))))))) (by kernel_rfl)
noncomputable def EG(k:Nat):aD Tryz.prog am:=⟨21,zm k,LY k⟩
noncomputable def wN(k:Nat):aQ:=⟨[(.int .i64)],[.str],[],fun x=>Aj k x⟩
theorem PI(k:Nat):aR Tryz.prog am 25 (wN k).aS:=bh bd Tryz.func25 (by kernel_rfl) rfl Tryz.ntmps25 (wN k) (by kernel_rfl) [] (fun x=>.ae 5 (.be [.ab 4 (.int .i64),.rw 6 5 (.int .u8)] (az [0,3,4] [] [6]) (fun n=>bY (uM x n)) k fun _ _=>.ae 2 (.t (.ae 2 (.u 0 .z))))) (by kernel_rfl)
noncomputable def My(k:Nat):aD Tryz.prog am:=⟨25,wN k,PI k⟩
noncomputable def ui(k:Nat):aQ:=⟨[],[.bool],[],fun _=>AX k⟩
theorem GG(k:Nat):aR Tryz.prog am 5 (ui k).aS:=bh bd Tryz.func5 (by kernel_rfl) rfl Tryz.ntmps5 (ui k) (by kernel_rfl) [EG k,FY k,EI k,My k,oz k,Hl k,GC k,EM k,Du k] (fun _=>.ae 5 (.f (.ae 10 (.fN [2,3,4,5,6] [2,3,4] [] (.ae 6 (.fN [2,3,4,5,6,8,10] [2,3,4] [] (.ae 6 (.fN [2,3,4,5,6,8,10,12,14,16] [2,3,4] [] (.ae 6 (.fN [2,3,5,6,8,10,12,14,16,18,20,22] [2,3] [] (.ae 4 (.cS [[],[0],[1],[2],[1,0],[2,0],[2,1],[2,1,0],[3,2,1,0],[4,3,2,1,0],[5,4,3,2,1,0],[6,4,3,2,1,0],[7,4,3,2,1,0],[6,5,4,3,2,1,0],[7,5,4,3,2,1,0],[8,5,4,3,2,1,0],[7,6,4,3,2,1,0],[7,6,5,4,3,2,1,0],[8,6,5,4,3,2,1,0],[8,7,5,4,3,2,1,0],[8,7,6,5,4,3,2,1,0],[9,8,6,5,4,3,2,1,0],[9,8,7,6,5,4,3,2,1,0],[10,9,8,7,6,5,4,3,2,1,0]] (.ae 3 (.fN [2,3,5,6,8,10,12,14,16,18,20,22,24,26,29] [2,3] [] (.ae 2 (.ac [eM,eM,(.int .i64)] fun o=>.ae 1 (.fN [3,5,6,8,10,12,14,16,18,20,22,24,26,29,32,33,34,35] [3] [] (.ae 3 (.bf 2 (.bf 2 (.bf 2 (.bf 2 (.bf 2 (.bf 2 (.bf 2 (.bf 2 (.bf 2 (.bf 2 (.bf 2 (.bf 2 (.bf 2 (.f (.ae 4 (.g 3 (zP o) .z .z (fun _=>.bf 2 (.bf 3 (.bf 3 .z))))))))))))))))))))))))))))))))))))) (by kernel_rfl)
noncomputable def UB(k:Nat):aD Tryz.prog am:=⟨5,ui k,GG k⟩
noncomputable def Br(k:Nat):aQ:=⟨[bI,.str],[(.int .u32),(.int .i64)],[],fun x=>GA k (x.1) (x.2)⟩
theorem PW(k:Nat):aR Tryz.prog am 109 (Br k).aS:=bh bd Tryz.func109 (by kernel_rfl) rfl Tryz.ntmps109 (Br k) (by kernel_rfl) [gI k,Iq k] (fun _=>.z) (by kernel_rfl)
noncomputable def TX(k:Nat):aD Tryz.prog am:=⟨109,Br k,PW k⟩
noncomputable def CT(k:Nat):aQ:=⟨[bI,dz,.str],[(.int .i64)],[],fun x=>w6 k (x.1) (x.2.1) (x.2.2)⟩
theorem R9(k:Nat):aR Tryz.prog am 73 (CT k).aS:=bh bd Tryz.func73 (by kernel_rfl) rfl Tryz.ntmps73 (CT k) (by kernel_rfl) [TX k] (fun _=>.z) (by kernel_rfl)
noncomputable def SX(k:Nat):aD Tryz.prog am:=⟨73,CT k,R9 k⟩
noncomputable def Cr(k:Nat):aQ:=⟨[bI,bI,dz,dz],[(.int .i64)],[],fun x=>AT k (x.1) (x.2.1) (x.2.2.1) (x.2.2.2)⟩
theorem R3(k:Nat):aR Tryz.prog am 36 (Cr k).aS:=bh bd Tryz.func36 (by kernel_rfl) rfl Tryz.ntmps36 (Cr k) (by kernel_rfl) [SX k] (fun x=>.ae 4 (.be [.ab 9 (.int .i64),.ab 10 (.int .i64)] (az [4,5,6,7,9,10] [4,5,6,7] []) (fun n=>bY (AO k (x.2.1) (x.1) (x.2.2.1) (x.2.2.2) n)) k fun o q=>.ae 2 (.t (.j [.ab 9 (.int .i64)] (az [4,5,6,7,9,10] [4,5,6,7] []) (zO (dh o) (q.2)) (.ae 4 (.u 0 .z)) (fun _=>.z))))) (by kernel_rfl)
noncomputable def Jl(k:Nat):aD Tryz.prog am:=⟨36,Cr k,R3 k⟩
noncomputable def Cn(k:Nat):aQ:=⟨[bI,bI,.str],[.bool],[],fun x=>TR k (x.1) (x.2.1) (x.2.2)⟩
theorem KW(k:Nat):aR Tryz.prog am 9 (Cn k).aS:=bh bd Tryz.func9 (by kernel_rfl) rfl Tryz.ntmps9 (Cn k) (by kernel_rfl) [EG k,oz k,ql k,nw k,Jl k] (fun _=>.ae 5 (.f (.ae 2 (.f (.ae 4 (.fN [2,3,4,8,9] [3,4] [] (.f (.ae 6 (.fN [2,3,4,8,10,11,12,13] [3,4] [] (.bf 2 (.bf 3 (.bf 3 (.f (.ae 1 (.ac [bk,(.int .i64)] fun v5=>.ae 1 (.ac [bk,(.int .i64)] fun q=>.ae 2 (.bf 2 (.bf 5 (.f (.ae 2 (.be [.ab 16 (.int .i64),.ad 3 0 (.ab .str),.ad 3 1 au,.ad 4 0 (.ab .str),.ad 4 1 au] (az [3,4,14,15,16] [3,4] []) (fun n=>JQ (yI k v5 q n)) k fun L o=>.ae 2 (.bf 2 (.t (.j [.ad 3 0 (.ab .str),.ad 3 1 au,.ad 4 0 (.ab .str),.ad 4 1 au] (az [3,4,14,15,16] [3,4] []) (oW (A9 (qS L) (o.1))) (.ae 1 (.cS [[],[0],[1],[2],[9],[1,0],[2,0],[9,0],[2,1],[9,1],[9,2],[2,1,0],[9,1,0],[9,2,0],[3,2,1],[9,2,1],[3,2,1,0],[9,2,1,0],[4,3,2,1],[9,3,2,1],[4,3,2,1,0],[9,3,2,1,0],[9,4,3,2,1],[5,4,3,2,1,0],[9,4,3,2,1,0],[6,5,4,3,2,1,0],[9,5,4,3,2,1,0],[7,6,5,4,3,2,1,0],[8,6,5,4,3,2,1,0],[9,6,5,4,3,2,1,0],[8,7,6,5,4,3,2,1,0],[9,7,6,5,4,3,2,1,0],[9,8,6,5,4,3,2,1,0],[9,8,7,6,5,4,3,2,1,0],[10,9,7,6,5,4,3,2,1,0],[10,9,8,7,6,5,4,3,2,1,0],[11,10,9,8,7,6,5,4,3,2,1,0]] (.ae 1 (.ac [dz,(.int .i64)] fun O=>.ae 1 (.cS [[],[0],[1],[2],[9],[1,0],[2,0],[9,0],[2,1],[9,1],[9,2],[2,1,0],[9,1,0],[9,2,0],[3,2,1],[9,2,1],[3,2,1,0],[9,2,1,0],[4,3,2,1],[9,3,2,1],[4,3,2,1,0],[9,3,2,1,0],[9,4,3,2,1],[5,4,3,2,1,0],[9,4,3,2,1,0],[6,5,4,3,2,1,0],[9,5,4,3,2,1,0],[7,6,5,4,3,2,1,0],[8,6,5,4,3,2,1,0],[9,6,5,4,3,2,1,0],[8,7,6,5,4,3,2,1,0],[9,7,6,5,4,3,2,1,0],[9,8,6,5,4,3,2,1,0],[9,8,7,6,5,4,3,2,1,0],[10,9,7,6,5,4,3,2,1,0],[10,9,8,7,6,5,4,3,2,1,0],[11,10,9,8,7,6,5,4,3,2,1,0]] (.ae 1 (.ac [dz,(.int .i64)] fun R=>.ae 1 (.fN [3,4,14,15,16,17,18,19,20] [3,4,17,19] [] (.cS [[],[0],[1],[2],[9],[1,0],[2,0],[9,0],[2,1],[9,1],[9,2],[2,1,0],[9,1,0],[9,2,0],[3,2,1],[9,2,1],[3,2,1,0],[9,2,1,0],[4,3,2,1],[9,3,2,1],[4,3,2,1,0],[9,3,2,1,0],[9,4,3,2,1],[5,4,3,2,1,0],[9,4,3,2,1,0],[6,5,4,3,2,1,0],[9,5,4,3,2,1,0],[7,6,5,4,3,2,1,0],[8,6,5,4,3,2,1,0],[9,6,5,4,3,2,1,0],[8,7,6,5,4,3,2,1,0],[9,7,6,5,4,3,2,1,0],[9,8,6,5,4,3,2,1,0],[9,8,7,6,5,4,3,2,1,0],[10,9,7,6,5,4,3,2,1,0],[10,9,8,7,6,5,4,3,2,1,0],[11,10,9,8,7,6,5,4,3,2,1,0]] (.u 1 (.ac [dz,(.int .i64)] fun v9=>.ae 3 (.bf 2 (.gT 13 [.ab 156 .bool] (az [3,4,14,15,16,17,19,22,156] [3,4,17,19] []) (Ci k v9 (qS L) (o.1) (o.2.1) (o.2.2.1) (o.2.2.2.1) (o.2.2.2.2) O R q) .z (.ae 3 (.g 9 (B0 k v9 (qS L) (o.1) (o.2.1) (o.2.2.1) (o.2.2.2.1) (o.2.2.2.2) O R q) .z .z (fun _=>.z))) (fun _=>.f (.ae 2 (.f (.ae 1 (.ac [(.int .i64)] fun U=>.ae 2 (.be [.ab 24 .bool,.ab 25 (.int .i64)] (az [3,4,14,15,16,17,23,24,25] [3,4,17] []) (fun n=>bY (AZ k (o.2.2.2.2) (o.2.1) (o.2.2.1) (o.2.2.2.1) O U q (o.1) (qS L) n)) k fun V W=>.ae 2 (.t (.ae 4 (.ac [(.int .i64)] fun Y=>.ae 2 (.g 11 (wE Y U (dh V) (W.2)) .z (.ae 4 (.u 0 .z)) (fun t9=>.ae 1 (.gT 7 [.ab 205 .bool] (az [3,4,14,15,16,17,23,24,25,205] [3,4,17] []) (y9 (dh V) t9 (W.2)) .z (.ae 4 (.bf 2 .z)) (fun _=>.z)))))))))))))))))))))))))) (fun _=>.z))))))))))))))))))))))))) (by kernel_rfl)
noncomputable def Uo(k:Nat):aD Tryz.prog am:=⟨9,Cn k,KW k⟩
end Go.Ev
