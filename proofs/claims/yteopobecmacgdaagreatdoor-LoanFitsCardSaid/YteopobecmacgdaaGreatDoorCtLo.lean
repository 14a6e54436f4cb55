/- Contracts, by program. -/
import Derived.Test.YteopobecmacgdaaGreatDoorProg
import Derived.Test.YteopobecmacgdaaGreatDoorMM6
import Derived.Test.YteopobecmacgdaaGreatDoorMM9
import Derived.Test.YteopobecmacgdaaGreatDoorCtLoP1
import Derived.Test.YteopobecmacgdaaGreatDoorCtLoP2
import Derived.Test.YteopobecmacgdaaGreatDoorCtLoP3
import Derived.Test.YteopobecmacgdaaGreatDoorCtLoP4
import Derived.Test.YteopobecmacgdaaGreatDoorCtLoP5
import Derived.Test.YteopobecmacgdaaGreatDoorCtLoP6
import Derived.Test.YteopobecmacgdaaGreatDoorCtLoP7
import Derived.Test.YteopobecmacgdaaGreatDoorCtLoP8
import Derived.Test.YteopobecmacgdaaGreatDoorCtLoP9
import Derived.KernelRfl
import Derived.Test.YteopobecmacgdaaGreatDoorTyA
set_option linter.unusedSectionVars false
set_option linter.unusedVariables false
set_option linter.unusedSimpArgs false
namespace Go.Ev
open Go Go.Proofs
set_option linter.unusedVariables false
set_option maxRecDepth 100000
noncomputable def AL(k:Nat):bU nm aA where
 n:=38
 S:=fun z=>⟨[(0,.row 10000000),(1,ax (z.1)),(2,ax (z.2.1)),(3,ax (z.2.2.1)),(4,.clos 61 [])],[],[(10000000,⟨140,cQ,(z.2.2.2)⟩)]⟩
 bJ:=fun z y=>⟨[],[],[(10000000,⟨140,cQ,(y)⟩)]⟩
 ap:=fun z y=>[]
 rel:=fun z y=>oH k (z.1) (z.2.1) (z.2.2.1) (z.2.2.2)=some y
theorem OU(k:Nat):cb Tryz.prog am 190 (AL k):=dr Tryz.func190 (by kernel_rfl) rfl (AL k) Tryz.ntmps190 [] (fun z=>oH k (z.1) (z.2.1) (z.2.2.1) (z.2.2.2)) (fun _ _ h=>h) (fun st=>bu st [.rw 10000000 140 cQ]) [] [10000000] (fun z=>.ae 1 (.bg [.ab 10 (.int .i64),.rw 10000000 140 cQ] (aB [0,1,2,3,4,10] [] [10000000]) (fun n=>b7 (A1 (z.2.2.1) (z.2.1) (z.1) n)) k fun _ _=>.ae 2 (.t (.ae 1 (.fO [0,1,2,3,4,5,6,7,8,9,10,11,12,14,15,16,17,18] [13,19,20] [21,22,23] (.ae 2 (.u 1 (.u 0 (.u 0 (.u 0 (.ae 1 (.u 0 .z)))))))))))) (by kernel_rfl)
noncomputable def xW(k:Nat):cD Tryz.prog am nm aA:=⟨190,AL k,fun st=>bu st [.ab 1 (.int .i64),.ab 2 (.int .i64),.ab 3 (.int .i64),.rw 10000000 140 cQ],fun z=>oH k (z.1) (z.2.1) (z.2.2.1) (z.2.2.2),(OU k),fun _ _ h=>h⟩
noncomputable def AQ(k:Nat):bU nm aA where
 n:=58
 S:=fun z=>⟨[(0,.row 10000000),(1,ax (z.1)),(2,ax (z.2.1)),(3,ax (z.2.2.1)),(4,.clos 61 [])],[],[(10000000,⟨140,cQ,(z.2.2.2)⟩)]⟩
 bJ:=fun z y=>⟨[],[],[(10000000,⟨140,cQ,(y)⟩)]⟩
 ap:=fun z y=>[]
 rel:=fun z y=>sf k (z.1) (z.2.1) (z.2.2.1) (z.2.2.2)=some y
theorem TT(k:Nat):cb Tryz.prog am 155 (AQ k):=dr Tryz.func155 (by kernel_rfl) rfl (AQ k) Tryz.ntmps155 [] (fun z=>sf k (z.1) (z.2.1) (z.2.2.1) (z.2.2.2)) (fun _ _ h=>h) (fun st=>bu st [.rw 10000000 140 cQ]) [] [10000000] (fun z=>.ae 3 (.bg [.ab 10 (.int .i64),.ab 11 (.int .i64),.rw 10000000 140 cQ] (aB [0,2,4,10,11] [] [10000000]) (fun n=>gj (Di k (z.2.1) n)) k fun _ _=>.ae 2 (.c (.ae 1 (.c (.ae 1 (.bI (xW k) [(10000000,10000000)] [(10000000,10000000)] (fun _=>.z))) (.ae 1 (.bI (xW k) [(10000000,10000000)] [(10000000,10000000)] (fun _=>.z))))) (.bI (xW k) [(10000000,10000000)] [(10000000,10000000)] (fun _=>.z))))) (by kernel_rfl)
noncomputable def NW(k:Nat):cD Tryz.prog am nm aA:=⟨155,AQ k,fun st=>bu st [.ab 1 (.int .i64),.ab 2 (.int .i64),.ab 3 (.int .i64),.rw 10000000 140 cQ],fun z=>sf k (z.1) (z.2.1) (z.2.2.1) (z.2.2.2),(TT k),fun _ _ h=>h⟩
noncomputable def si(k:Nat):bU nm aA where
 n:=220
 S:=fun z=>⟨[(0,.row 10000000),(1,ax (z.1)),(2,ax (z.2.1)),(3,ax (z.2.2.1)),(4,.clos 61 [])],[],[(10000000,⟨140,cQ,(z.2.2.2)⟩)]⟩
 bJ:=fun z y=>⟨[],[],[(10000000,⟨140,cQ,(y)⟩)]⟩
 ap:=fun z y=>[]
 rel:=fun z y=>iY k (z.1) (z.2.1) (z.2.2.1) (z.2.2.2)=some y
noncomputable def Dc(k:Nat)(h:cb Tryz.prog am 121 (si k)):cD Tryz.prog am nm aA:=⟨121,si k,fun st=>bu st [.ab 1 (.int .i64),.ab 2 (.int .i64),.ab 3 (.int .i64),.rw 10000000 140 cQ],fun z=>iY k (z.1) (z.2.1) (z.2.2.1) (z.2.2.2),h,fun _ _ h=>h⟩
theorem wZ:∀k:Nat,cb Tryz.prog am 121 (si k)
 |0=>DD Tryz.func121 (by kernel_rfl) rfl _ fun _ _ h=>nomatch (show(none:Option _)=some _ from h)
 |k+1=>dr Tryz.func121 (by kernel_rfl) rfl (si (k+1)) Tryz.ntmps121 [Ku k] (fun z=>iY (k+1) (z.1) (z.2.1) (z.2.2.1) (z.2.2.2)) (fun _ _ h=>h) (fun st=>bu st [.rw 10000000 140 cQ]) [] [10000000] (fun z=>.ae 2 (.c (.ae 3 (.bg [.ab 10 (.int .i64),.ab 11 (.int .i64)] (aB [0,1,4,10,11] [] [10000000]) (fun n=>b7 (ze k (z.2.2.2) (z.1) n)) k fun _ q=>.ae 2 (.c (.ae 4 (.u 0 (.ae 1 (.u 0 .z)))) (.ae 2 (.bg [.ab 13 (.int .i64),.rw 10000000 140 cQ] (aB [0,4,10,13] [] [10000000]) (fun n=>b7 (EG (q.1) n)) k fun _ _=>.ae 2 (.t (.ae 1 (.fO [0,1,2,3,4,5,6,7,8,10,11,12] [9,13,14] [15,16,17] (.ae 2 (.u 1 (.u 0 (.u 0 (.u 0 (.ae 1 (.u 0 .z))))))))))))))) (.ae 2 (.c (.ae 3 (.bg [.ab 14 (.int .i64),.ab 15 (.int .i64)] (aB [0,2,4,14,15] [] [10000000]) (fun n=>b7 (CO k (z.2.2.2) (z.2.1) n)) k fun _ L=>.ae 2 (.c (.ae 4 (.u 0 (.ae 1 (.u 0 .z)))) (.ae 2 (.bg [.ab 17 (.int .i64),.rw 10000000 140 cQ] (aB [0,4,14,17] [] [10000000]) (fun n=>b7 (wJ (L.1) n)) k fun _ _=>.ae 2 (.t (.ae 1 (.fO [0,1,2,3,4,5,6,7,8,10,11,12] [9,13,14] [15,16,17] (.ae 2 (.u 1 (.u 0 (.u 0 (.u 0 (.ae 1 (.u 0 .z))))))))))))))) (.ae 3 (.j [.ab 20 (.int .i64),.ab 21 (.int .i64)] (aB [0,1,2,3,4,18,19,20,21] [] [10000000]) (b7 (AV k (z.2.2.2) (z.1) (z.2.2.1) (z.2.1) (iY k))) .z (fun _=>.ae 2 (.bg [.ab 20 (.int .i64),.ab 21 (.int .i64)] (aB [0,1,2,3,4,18,19,20,21,22] [] [10000000]) (fun n=>b7 (BU k (z.2.2.2) (z.1) (z.2.2.1) (z.2.1) (iY k) n)) k fun _ o=>.ae 2 (.c (.ae 4 (.u 0 (.ae 1 (.u 0 .z)))) (.ae 1 (.j [.rw 10000000 140 cQ] (aB [0,1,3,4,18,20,24] [] [10000000]) (Ci (iY k) (z.1) (o.1) (z.2.2.1) (z.2.1)) (.ae 1 (.bh 3 (.t (.bI (NW k) [(10000000,10000000)] [(10000000,10000000)] (fun _=>.z))))) (fun _=>.j [.rw 10000000 140 cQ] (aB [0,3,4,18,24] [] [10000000]) (BN (iY k) (z.1) (z.2.2.1) (z.2.1) (o.1)) (.ae 1 (.bh 3 (.t (.bI (Dc k (wZ k)) [(10000000,10000000)] [(10000000,10000000)] (fun _=>.z))))) (fun _=>.ae 1 (.bh 3 (.t (.bI (Dc k (wZ k)) [(10000000,10000000)] [(10000000,10000000)] (fun _=>.z))))))))))))))))) (by kernel_rfl)
noncomputable def Fx(k:Nat):cD Tryz.prog am nm aA:=Dc k (wZ k)
noncomputable def yr(k:Nat):bU (Int×List bz) aA where
 n:=63
 S:=fun z=>⟨[(0,.row 10000000),(1,ax (z.1)),(2,.clos 61 [])],[],[(10000000,⟨140,cQ,(z.2)⟩)]⟩
 bJ:=fun z y=>⟨[],[],[(10000000,⟨140,cQ,(y)⟩)]⟩
 ap:=fun z y=>[]
 rel:=fun z y=>sr k (z.1) (z.2)=some y
theorem Pd(k:Nat):cb Tryz.prog am 95 (yr k):=dr Tryz.func95 (by kernel_rfl) rfl (yr k) Tryz.ntmps95 [] (fun z=>sr k (z.1) (z.2)) (fun _ _ h=>h) (fun st=>bu st [.rw 10000000 140 cQ]) [] [10000000] (fun z=>.ae 3 (.bg [.ab 7 (.int .i64),.ab 8 (.int .i64),.rw 10000000 140 cQ] (aB [0,1,2,6,7,8] [] [10000000]) (fun n=>gj (AR k (z.1) n)) k fun _ _=>.ae 2 (.c (.ae 1 (.bI (LD k) [(10000000,10000000)] [(10000000,10000000)] (fun _=>.z))) (.ae 1 (.bI (LD k) [(10000000,10000000)] [(10000000,10000000)] (fun _=>.bg [.ab 6 (.int .i64),.rw 10000000 140 cQ] (aB [0,1,2,6] [] [10000000]) (fun n=>b7 (xY k (z.1) n)) k fun o q=>.ae 2 (.t (.ae 2 (.bg [.ab 7 (.int .i64),.ab 8 (.int .i64),.rw 10000000 140 cQ] (aB [0,1,2,6,7,8] [] [10000000]) (fun n=>gj (we k (z.1) (q.1) (dq o) n)) k fun _ _=>.ae 2 (.c (.ae 1 (.bI (Fx k) [(10000000,10000000)] [(10000000,10000000)] (fun _=>.z))) (.j [.rw 10000000 140 cQ] (aB [0,1,2,6] [] [10000000]) (ww (dq o) (q.1)) (.ae 2 (.t (.bI (Fx k) [(10000000,10000000)] [(10000000,10000000)] (fun _=>.z)))) (fun _=>.z)))))))))))) (by kernel_rfl)
noncomputable def Tr(k:Nat):cD Tryz.prog am (Int×List bz) aA:=⟨95,yr k,fun st=>bu st [.ab 1 (.int .i64),.rw 10000000 140 cQ],fun z=>sr k (z.1) (z.2),(Pd k),fun _ _ h=>h⟩
noncomputable def Db(k:Nat):bU aA aA where
 n:=9
 S:=fun z=>⟨[(0,.row 10000000),(1,.clos 61 [])],[],[(10000000,⟨140,cQ,(z)⟩)]⟩
 bJ:=fun z y=>⟨[],[],[(10000000,⟨140,cQ,(y)⟩)]⟩
 ap:=fun z y=>[]
 rel:=fun z y=>vw k (z)=some y
theorem LS(k:Nat):cb Tryz.prog am 60 (Db k):=dr Tryz.func60 (by kernel_rfl) rfl (Db k) Tryz.ntmps60 [] (fun z=>vw k (z)) (fun _ _ h=>h) (fun st=>bu st [.rw 10000000 140 cQ]) [] [10000000] (fun _=>.bI (Tr k) [(10000000,10000000)] [(10000000,10000000)] (fun _=>.z)) (by kernel_rfl)
noncomputable def Qv(k:Nat):cD Tryz.prog am aA aA:=⟨60,Db k,fun st=>bu st [.rw 10000000 140 cQ],fun z=>vw k (z),(LS k),fun _ _ h=>h⟩
noncomputable def wb(k:Nat):aU:=⟨[bP,ki,(.ab .str),.str],[fc,fc,(.int .i64)],[],fun x=>qT k (x.1) (x.2.1) (x.2.2.1) (x.2.2.2)⟩
theorem NK(k:Nat):aV Tryz.prog am 28 (wb k).aW:=F4 bf Tryz.func28 (by kernel_rfl) rfl Tryz.ntmps28 (wb k) (by kernel_rfl) [DE k,rr k,pA k,H6 k,RE k] [(4,4),(5,5),(8,123),(9,124),(10,122),(1000008,1000008),(1000009,1000009)] (fun x=>.ae 4 (.c (.ig (mj k) [(122,5),(123,6),(124,7)] [(5,122),(6,123),(7,124)]) (.ae 2 (.c (.ae 1 (.ig (mj k) [(122,5),(123,6),(124,7)] [(5,122),(6,123),(7,124)])) (.ae 2 (.bg [.ab 37 (.int .i64),.ad 122 0 (.int .i64)] (aB [2,3,4,5,8,9,10,35,36,37] [4,5,122,123,124] [1000008,1000009]) (fun n=>b7 (BB k (x.2.2.1) (x.1) (x.2.1) (x.2.2.2) n)) k fun _ _=>.ae 2 (.c (.ae 6 (.t (.ig (mj k) [(122,5),(123,6),(124,7)] [(5,122),(6,123),(7,124)]))) (.ae 4 (.c (.ig (mj k) [(122,5),(123,6),(124,7)] [(5,122),(6,123),(7,124)]) (.ae 4 (.bg [.ab 55 (.int .i64),.ad 122 0 (.int .i64),.rw 13 140 cQ] (aB [3,4,5,8,9,10,13,53,54,55] [4,5,122,123,124] [13,1000008,1000009]) (fun n=>gj (Bs k (x.2.2.1) (x.1) (x.2.1) (x.2.2.2) n)) k fun o q=>.ae 2 (.c (.j [.ad 122 0 (.int .i64),.rw 13 140 cQ] (aB [3,4,5,8,9,10,13,53,54,55] [4,5,122,123,124] [13,1000008,1000009]) (b7 (yN (gH o) (q.1))) (.ae 9 (.c (.ig (mj k) [(122,5),(123,6),(124,7)] [(5,122),(6,123),(7,124)]) (.ae 4 (.c (.ig (mj k) [(122,5),(123,6),(124,7)] [(5,122),(6,123),(7,124)]) (.ae 2 (.f (.ae 5 (.t (.ig (mj k) [(122,5),(123,6),(124,7)] [(5,122),(6,123),(7,124)]))))))))) (fun _=>.z)) (.ae 1 (.bI (Qv k) [(13,10000000)] [(10000000,13)] (fun L=>.ae 2 (.bg [.ab 105 (.int .i64),.rw 1000008 3 (.int .i64),.rw 1000009 3 (.int .i64)] (aB [8,9,10,103,104,105] [122,123,124] [13,1000008,1000009]) (fun n=>gj (C5 k L n)) k fun _ _=>.ae 2 (.c (.ae 3 (.u 0 .z)) (.ae 1 (.dh [[],[0],[1],[1,0],[2,0],[2,1,0],[3,2,1,0],[4,3,2,1,0]] (.ig (mj k) [(122,5),(123,6),(124,7)] [(5,122),(6,123),(7,124)])))))))))))))))))))) (by kernel_rfl)
noncomputable def HK(k:Nat):aF Tryz.prog am:=⟨28,wb k,NK k⟩
noncomputable def Aa(k:Nat):aU:=⟨[ki,.str],[(.ab .str),(.int .i64)],[],fun x=>BL k (x.1) (x.2)⟩
theorem Mq(k:Nat):aV Tryz.prog am 29 (Aa k).aW:=bi bf Tryz.func29 (by kernel_rfl) rfl Tryz.ntmps29 (Aa k) (by kernel_rfl) [K9 k,rr k,KN k,Ie k] (fun x=>.ae 6 (.f (.ae 4 (.f (.ae 4 (.bg [.ab 28 (.int .i64),.rw 8 9 .str] (aB [1,2,8,27,28] [2] [8]) (fun n=>b7 (C7 k (x.1) (x.2) n)) k fun o q=>.ae 2 (.t (.j [.rw 8 9 .str] (aB [1,2,8,27,28] [2] [8]) (B6 (dq o) (q.1)) .z (fun _=>.z))))))))) (by kernel_rfl)
noncomputable def Ga(k:Nat):aF Tryz.prog am:=⟨29,Aa k,Mq k⟩
noncomputable def En(k:Nat):aU:=⟨[],[.bool],[],fun _=>sN k⟩
theorem Py(k:Nat):aV Tryz.prog am 21 (En k).aW:=bi bf Tryz.func21 (by kernel_rfl) rfl Tryz.ntmps21 (En k) (by kernel_rfl) [Ll k,Iw k,pA k,KC k,IY k,HK k,Ga k] (fun _=>.ae 10 (.gp [1,2,3,4,5,6] [1,2] [] (.ae 2 (.ac [fc,(.int .i64)] fun L=>.ae 1 (.ac [fc,fc,(.int .i64)] fun q=>.ae 1 (.gp [1,2,3,4,5,6,7,8,9,10,11,12,13] [1,2] [] (.ac [(.ab .str),(.int .i64)] fun o=>.ae 4 (.bh 2 (.bh 2 (.bh 2 (.bh 2 (.bh 2 (.bh 2 (.bh 3 (.bh 3 (.bh 3 (.bh 3 (.f (.ae 1 (.bh 2 (.bh 2 (.g 4 (vX L q o) .z .z (fun _=>.g 4 (EH q o) .z .z (fun _=>.g 4 (CX q o) .z .z (fun _=>.g 4 (Ex o) .z .z (fun _=>.g 4 (zC o) .z .z (fun _=>.g 4 B0 .z .z (fun _=>.z)))))))))))))))))))))))))))) (by kernel_rfl)
noncomputable def KZ(k:Nat):aF Tryz.prog am:=⟨21,En k,Py k⟩
noncomputable def D0(k:Nat):aU:=⟨[(.int .i64)],[.str],[],fun x=>As k x⟩
theorem N7(k:Nat):aV Tryz.prog am 25 (D0 k).aW:=bi bf Tryz.func25 (by kernel_rfl) rfl Tryz.ntmps25 (D0 k) (by kernel_rfl) [] (fun x=>.ae 5 (.bg [.ab 4 (.int .i64),.rw 6 5 (.int .u8)] (aB [0,3,4] [] [6]) (fun n=>b7 (Du x n)) k fun _ _=>.ae 2 (.t (.ae 2 (.u 0 .z))))) (by kernel_rfl)
noncomputable def Xg(k:Nat):aF Tryz.prog am:=⟨25,D0 k,N7 k⟩
noncomputable def Cj(k:Nat):aU:=⟨[],[.bool],[],fun _=>Sp k⟩
theorem L3(k:Nat):aV Tryz.prog am 5 (Cj k).aW:=bi bf Tryz.func5 (by kernel_rfl) rfl Tryz.ntmps5 (Cj k) (by kernel_rfl) [KZ k,Ll k,Iw k,Xg k,pA k,KC k,IY k,HK k,Ga k] (fun _=>.ae 5 (.f (.ae 10 (.gp [2,3,4,5,6] [2,3,4] [] (.ae 6 (.gp [2,3,4,5,6,8,10] [2,3,4] [] (.ae 6 (.gp [2,3,4,5,6,8,10,12,14,16] [2,3,4] [] (.ae 6 (.gp [2,3,5,6,8,10,12,14,16,18,20,22] [2,3] [] (.ae 4 (.dh [[],[0],[1],[2],[1,0],[2,0],[2,1],[2,1,0],[3,2,1,0],[4,3,2,1,0],[5,4,3,2,1,0],[6,4,3,2,1,0],[7,4,3,2,1,0],[6,5,4,3,2,1,0],[7,5,4,3,2,1,0],[8,5,4,3,2,1,0],[7,6,4,3,2,1,0],[7,6,5,4,3,2,1,0],[8,6,5,4,3,2,1,0],[8,7,5,4,3,2,1,0],[8,7,6,5,4,3,2,1,0],[9,8,6,5,4,3,2,1,0],[9,8,7,6,5,4,3,2,1,0],[10,9,8,7,6,5,4,3,2,1,0]] (.ae 3 (.gp [2,3,5,6,8,10,12,14,16,18,20,22,24,26,29] [2,3] [] (.ae 2 (.ac [fc,fc,(.int .i64)] fun o=>.ae 1 (.gp [3,5,6,8,10,12,14,16,18,20,22,24,26,29,32,33,34,35] [3] [] (.ae 3 (.bh 2 (.bh 2 (.bh 2 (.bh 2 (.bh 2 (.bh 2 (.bh 2 (.bh 2 (.bh 2 (.bh 2 (.bh 2 (.bh 2 (.bh 2 (.f (.ae 4 (.g 3 (By o) .z .z (fun _=>.bh 2 (.bh 3 (.bh 3 .z))))))))))))))))))))))))))))))))))))) (by kernel_rfl)
noncomputable def XW(k:Nat):aF Tryz.prog am:=⟨5,Cj k,L3 k⟩
noncomputable def Ai(k:Nat):aU:=⟨[bP,.str],[(.int .u32),(.int .i64)],[],fun x=>uV k (x.1) (x.2)⟩
theorem SY(k:Nat):aV Tryz.prog am 109 (Ai k).aW:=bi bf Tryz.func109 (by kernel_rfl) rfl Tryz.ntmps109 (Ai k) (by kernel_rfl) [ib k,FL k] (fun _=>.z) (by kernel_rfl)
noncomputable def MX(k:Nat):aF Tryz.prog am:=⟨109,Ai k,SY k⟩
noncomputable def zp(k:Nat):aU:=⟨[bP,dK,.str],[(.int .i64)],[],fun x=>pq k (x.1) (x.2.1) (x.2.2)⟩
theorem RM(k:Nat):aV Tryz.prog am 73 (zp k).aW:=bi bf Tryz.func73 (by kernel_rfl) rfl Tryz.ntmps73 (zp k) (by kernel_rfl) [MX k] (fun _=>.z) (by kernel_rfl)
noncomputable def WM(k:Nat):aF Tryz.prog am:=⟨73,zp k,RM k⟩
noncomputable def Bb(k:Nat):aU:=⟨[bP,bP,dK,dK],[(.int .i64)],[],fun x=>ng k (x.1) (x.2.1) (x.2.2.1) (x.2.2.2)⟩
theorem WU(k:Nat):aV Tryz.prog am 36 (Bb k).aW:=bi bf Tryz.func36 (by kernel_rfl) rfl Tryz.ntmps36 (Bb k) (by kernel_rfl) [WM k] (fun x=>.ae 4 (.bg [.ab 9 (.int .i64),.ab 10 (.int .i64)] (aB [4,5,6,7,9,10] [4,5,6,7] []) (fun n=>b7 (pL k (x.2.1) (x.1) (x.2.2.1) (x.2.2.2) n)) k fun o q=>.ae 2 (.t (.j [.ab 9 (.int .i64)] (aB [4,5,6,7,9,10] [4,5,6,7] []) (ui (dq o) (q.2)) (.ae 4 (.u 0 .z)) (fun _=>.z))))) (by kernel_rfl)
noncomputable def Vr(k:Nat):aF Tryz.prog am:=⟨36,Bb k,WU k⟩
noncomputable def EX(k:Nat):aU:=⟨[bP,bP,.str],[.bool],[],fun x=>vK k (x.1) (x.2.1) (x.2.2)⟩
theorem Hb(k:Nat):aV Tryz.prog am 9 (EX k).aW:=bi bf Tryz.func9 (by kernel_rfl) rfl Tryz.ntmps9 (EX k) (by kernel_rfl) [KZ k,pA k,sA k,oV k,Vr k] (fun _=>.ae 5 (.f (.ae 2 (.f (.ae 4 (.gp [2,3,4,8,9] [3,4] [] (.f (.ae 6 (.gp [2,3,4,8,10,11,12,13] [3,4] [] (.bh 2 (.bh 3 (.bh 3 (.f (.ae 1 (.ac [bl,(.int .i64)] fun v5=>.ae 1 (.ac [bl,(.int .i64)] fun q=>.ae 2 (.bh 2 (.bh 5 (.f (.ae 2 (.bg [.ab 16 (.int .i64),.ad 3 0 (.ab .str),.ad 3 1 au,.ad 4 0 (.ab .str),.ad 4 1 au] (aB [3,4,14,15,16] [3,4] []) (fun n=>M4 (o6 k v5 q n)) k fun L o=>.ae 2 (.bh 2 (.t (.j [.ad 3 0 (.ab .str),.ad 3 1 au,.ad 4 0 (.ab .str),.ad 4 1 au] (aB [3,4,14,15,16] [3,4] []) (qk (qh (tD L) (o.1))) (.ae 1 (.dh [[],[0],[1],[2],[9],[1,0],[2,0],[9,0],[2,1],[9,1],[9,2],[2,1,0],[9,1,0],[9,2,0],[3,2,1],[9,2,1],[3,2,1,0],[9,2,1,0],[4,3,2,1],[9,3,2,1],[4,3,2,1,0],[9,3,2,1,0],[9,4,3,2,1],[5,4,3,2,1,0],[9,4,3,2,1,0],[6,5,4,3,2,1,0],[9,5,4,3,2,1,0],[7,6,5,4,3,2,1,0],[8,6,5,4,3,2,1,0],[9,6,5,4,3,2,1,0],[8,7,6,5,4,3,2,1,0],[9,7,6,5,4,3,2,1,0],[9,8,6,5,4,3,2,1,0],[9,8,7,6,5,4,3,2,1,0],[10,9,7,6,5,4,3,2,1,0],[10,9,8,7,6,5,4,3,2,1,0],[11,10,9,8,7,6,5,4,3,2,1,0]] (.ae 1 (.ac [dK,(.int .i64)] fun O=>.ae 1 (.dh [[],[0],[1],[2],[9],[1,0],[2,0],[9,0],[2,1],[9,1],[9,2],[2,1,0],[9,1,0],[9,2,0],[3,2,1],[9,2,1],[3,2,1,0],[9,2,1,0],[4,3,2,1],[9,3,2,1],[4,3,2,1,0],[9,3,2,1,0],[9,4,3,2,1],[5,4,3,2,1,0],[9,4,3,2,1,0],[6,5,4,3,2,1,0],[9,5,4,3,2,1,0],[7,6,5,4,3,2,1,0],[8,6,5,4,3,2,1,0],[9,6,5,4,3,2,1,0],[8,7,6,5,4,3,2,1,0],[9,7,6,5,4,3,2,1,0],[9,8,6,5,4,3,2,1,0],[9,8,7,6,5,4,3,2,1,0],[10,9,7,6,5,4,3,2,1,0],[10,9,8,7,6,5,4,3,2,1,0],[11,10,9,8,7,6,5,4,3,2,1,0]] (.ae 1 (.ac [dK,(.int .i64)] fun R=>.ae 1 (.gp [3,4,14,15,16,17,18,19,20] [3,4,17,19] [] (.dh [[],[0],[1],[2],[9],[1,0],[2,0],[9,0],[2,1],[9,1],[9,2],[2,1,0],[9,1,0],[9,2,0],[3,2,1],[9,2,1],[3,2,1,0],[9,2,1,0],[4,3,2,1],[9,3,2,1],[4,3,2,1,0],[9,3,2,1,0],[9,4,3,2,1],[5,4,3,2,1,0],[9,4,3,2,1,0],[6,5,4,3,2,1,0],[9,5,4,3,2,1,0],[7,6,5,4,3,2,1,0],[8,6,5,4,3,2,1,0],[9,6,5,4,3,2,1,0],[8,7,6,5,4,3,2,1,0],[9,7,6,5,4,3,2,1,0],[9,8,6,5,4,3,2,1,0],[9,8,7,6,5,4,3,2,1,0],[10,9,7,6,5,4,3,2,1,0],[10,9,8,7,6,5,4,3,2,1,0],[11,10,9,8,7,6,5,4,3,2,1,0]] (.u 1 (.ac [dK,(.int .i64)] fun v9=>.ae 3 (.bh 2 (.iO 13 [.ab 156 .bool] (aB [3,4,14,15,16,17,19,22,156] [3,4,17,19] []) (s5 k v9 (tD L) (o.1) (o.2.1) (o.2.2.1) (o.2.2.2.1) (o.2.2.2.2) O R q) .z (.ae 3 (.g 9 (sC k v9 (tD L) (o.1) (o.2.1) (o.2.2.1) (o.2.2.2.1) (o.2.2.2.2) O R q) .z .z (fun _=>.z))) (fun _=>.f (.ae 2 (.f (.ae 1 (.ac [(.int .i64)] fun U=>.ae 2 (.bg [.ab 24 .bool,.ab 25 (.int .i64)] (aB [3,4,14,15,16,17,23,24,25] [3,4,17] []) (fun n=>b7 (qY k (o.2.2.2.2) (o.2.1) (o.2.2.1) (o.2.2.2.1) O U q (o.1) (tD L) n)) k fun W Y=>.ae 2 (.t (.ae 4 (.ac [(.int .i64)] fun Z=>.ae 2 (.g 11 (su Z U (dq W) (Y.2)) .z (.ae 4 (.u 0 .z)) (fun t9=>.ae 1 (.iO 7 [.ab 205 .bool] (aB [3,4,14,15,16,17,23,24,25,205] [3,4,17] []) (sV (dq W) t9 (Y.2)) .z (.ae 4 (.bh 2 .z)) (fun _=>.z)))))))))))))))))))))))))) (fun _=>.z))))))))))))))))))))))))) (by kernel_rfl)
noncomputable def X6(k:Nat):aF Tryz.prog am:=⟨9,EX k,Hb k⟩
end Go.Ev
