/- Contracts, by program. -/
import Derived.Test.YteopobecmacgdaaGreatDoorProg
import Derived.Test.YteopobecmacgdaaGreatDoorMM6
import Derived.Test.YteopobecmacgdaaGreatDoorMM9
import Derived.Test.YteopobecmacgdaaGreatDoorMM10
import Derived.Test.YteopobecmacgdaaGreatDoorCtLoP1
import Derived.Test.YteopobecmacgdaaGreatDoorCtLoP2
import Derived.Test.YteopobecmacgdaaGreatDoorCtLoP3
import Derived.Test.YteopobecmacgdaaGreatDoorCtLoP4
import Derived.Test.YteopobecmacgdaaGreatDoorCtLoP5
import Derived.Test.YteopobecmacgdaaGreatDoorCtLoP6
import Derived.Test.YteopobecmacgdaaGreatDoorCtLoP7
import Derived.Test.YteopobecmacgdaaGreatDoorCtLoP8
import Derived.Test.YteopobecmacgdaaGreatDoorCtLoP9
import Derived.KernelRfl
import Derived.Test.YteopobecmacgdaaGreatDoorTyA
set_option linter.unusedSectionVars false
set_option linter.unusedVariables false
set_option linter.unusedSimpArgs false
namespace Go.Ev
open Go Go.Proofs
set_option linter.unusedVariables false
set_option maxRecDepth 100000
noncomputable def Dd(k:Nat):b8 pB aF where
 n:=38
 S:=fun z=>⟨[(0,.row 10000000),(1,ay (z.1)),(2,ay (z.2.1)),(3,ay (z.2.2.1)),(4,.clos 61 [])],[],[(10000000,⟨140,dm,(z.2.2.2)⟩)]⟩
 bg:=fun z y=>⟨[],[],[(10000000,⟨140,dm,(y)⟩)]⟩
 aq:=fun z y=>[]
 rel:=fun z y=>qT k (z.1) (z.2.1) (z.2.2.1) (z.2.2.2)=some y
theorem abP(k:Nat):cq Tryz.prog am 190 (Dd k):=dO Tryz.func190 (by kernel_rfl) rfl (Dd k) Tryz.ntmps190 [] (fun z=>qT k (z.1) (z.2.1) (z.2.2.1) (z.2.2.2)) (fun _ _ h=>h) (fun st=>bz st [.rw 10000000 140 dm]) [] [10000000] (fun z=>.ad 1 (.bi [.ab 10 (.int .i64),.rw 10000000 140 dm] (aB [0,1,2,3,4,10] [] [10000000]) (fun n=>cg (Co (z.2.2.1) (z.2.1) (z.1) n)) k fun _ _=>.ad 2 (.t (.ad 1 (.gm [0,1,2,3,4,5,6,7,8,9,10,11,12,14,15,16,17,18] [13,19,20] [21,22,23] (.ad 2 (.u 1 (.u 0 (.u 0 (.u 0 (.ad 1 (.u 0 .z)))))))))))) (by kernel_rfl)
noncomputable def EC(k:Nat):cX Tryz.prog am pB aF:=⟨190,Dd k,fun st=>bz st [.ab 1 (.int .i64),.ab 2 (.int .i64),.ab 3 (.int .i64),.rw 10000000 140 dm],fun z=>qT k (z.1) (z.2.1) (z.2.2.1) (z.2.2.2),(abP k),fun _ _ h=>h⟩
noncomputable def HO(k:Nat):b8 pB aF where
 n:=58
 S:=fun z=>⟨[(0,.row 10000000),(1,ay (z.1)),(2,ay (z.2.1)),(3,ay (z.2.2.1)),(4,.clos 61 [])],[],[(10000000,⟨140,dm,(z.2.2.2)⟩)]⟩
 bg:=fun z y=>⟨[],[],[(10000000,⟨140,dm,(y)⟩)]⟩
 aq:=fun z y=>[]
 rel:=fun z y=>yg k (z.1) (z.2.1) (z.2.2.1) (z.2.2.2)=some y
theorem Sw(k:Nat):cq Tryz.prog am 155 (HO k):=dO Tryz.func155 (by kernel_rfl) rfl (HO k) Tryz.ntmps155 [] (fun z=>yg k (z.1) (z.2.1) (z.2.2.1) (z.2.2.2)) (fun _ _ h=>h) (fun st=>bz st [.rw 10000000 140 dm]) [] [10000000] (fun z=>.ad 3 (.bi [.ab 10 (.int .i64),.ab 11 (.int .i64),.rw 10000000 140 dm] (aB [0,2,4,10,11] [] [10000000]) (fun n=>gD (GP k (z.2.1) n)) k fun _ _=>.ad 2 (.c (.ad 1 (.c (.ad 1 (.bQ (EC k) [(10000000,10000000)] [(10000000,10000000)] (fun _=>.z))) (.ad 1 (.bQ (EC k) [(10000000,10000000)] [(10000000,10000000)] (fun _=>.z))))) (.bQ (EC k) [(10000000,10000000)] [(10000000,10000000)] (fun _=>.z))))) (by kernel_rfl)
noncomputable def Up(k:Nat):cX Tryz.prog am pB aF:=⟨155,HO k,fun st=>bz st [.ab 1 (.int .i64),.ab 2 (.int .i64),.ab 3 (.int .i64),.rw 10000000 140 dm],fun z=>yg k (z.1) (z.2.1) (z.2.2.1) (z.2.2.2),(Sw k),fun _ _ h=>h⟩
noncomputable def wq(k:Nat):b8 pB aF where
 n:=220
 S:=fun z=>⟨[(0,.row 10000000),(1,ay (z.1)),(2,ay (z.2.1)),(3,ay (z.2.2.1)),(4,.clos 61 [])],[],[(10000000,⟨140,dm,(z.2.2.2)⟩)]⟩
 bg:=fun z y=>⟨[],[],[(10000000,⟨140,dm,(y)⟩)]⟩
 aq:=fun z y=>[]
 rel:=fun z y=>jQ k (z.1) (z.2.1) (z.2.2.1) (z.2.2.2)=some y
noncomputable def A9(k:Nat)(h:cq Tryz.prog am 121 (wq k)):cX Tryz.prog am pB aF:=⟨121,wq k,fun st=>bz st [.ab 1 (.int .i64),.ab 2 (.int .i64),.ab 3 (.int .i64),.rw 10000000 140 dm],fun z=>jQ k (z.1) (z.2.1) (z.2.2.1) (z.2.2.2),h,fun _ _ h=>h⟩
theorem Al:∀k:Nat,cq Tryz.prog am 121 (wq k)
 |0=>CQ Tryz.func121 (by kernel_rfl) rfl _ fun _ _ h=>nomatch (show(none:Option _)=some _ from h)
 |k+1=>dO Tryz.func121 (by kernel_rfl) rfl (wq (k+1)) Tryz.ntmps121 [JD k] (fun z=>jQ (k+1) (z.1) (z.2.1) (z.2.2.1) (z.2.2.2)) (fun _ _ h=>h) (fun st=>bz st [.rw 10000000 140 dm]) [] [10000000] (fun z=>.ad 2 (.c (.ad 3 (.bi [.ab 10 (.int .i64),.ab 11 (.int .i64)] (aB [0,1,4,10,11] [] [10000000]) (fun n=>cg (Gx k (z.2.2.2) (z.1) n)) k fun _ q=>.ad 2 (.c (.ad 4 (.u 0 (.ad 1 (.u 0 .z)))) (.ad 2 (.bi [.ab 13 (.int .i64),.rw 10000000 140 dm] (aB [0,4,10,13] [] [10000000]) (fun n=>cg (Hl (q.1) n)) k fun _ _=>.ad 2 (.t (.ad 1 (.gm [0,1,2,3,4,5,6,7,8,10,11,12] [9,13,14] [15,16,17] (.ad 2 (.u 1 (.u 0 (.u 0 (.u 0 (.ad 1 (.u 0 .z))))))))))))))) (.ad 2 (.c (.ad 3 (.bi [.ab 14 (.int .i64),.ab 15 (.int .i64)] (aB [0,2,4,14,15] [] [10000000]) (fun n=>cg (Ex k (z.2.2.2) (z.2.1) n)) k fun _ O=>.ad 2 (.c (.ad 4 (.u 0 (.ad 1 (.u 0 .z)))) (.ad 2 (.bi [.ab 17 (.int .i64),.rw 10000000 140 dm] (aB [0,4,14,17] [] [10000000]) (fun n=>cg (CZ (O.1) n)) k fun _ _=>.ad 2 (.t (.ad 1 (.gm [0,1,2,3,4,5,6,7,8,10,11,12] [9,13,14] [15,16,17] (.ad 2 (.u 1 (.u 0 (.u 0 (.u 0 (.ad 1 (.u 0 .z))))))))))))))) (.ad 3 (.j [.ab 20 (.int .i64),.ab 21 (.int .i64)] (aB [0,1,2,3,4,18,19,20,21] [] [10000000]) (cg (Fi k (z.2.2.2) (z.1) (z.2.2.1) (z.2.1) (jQ k))) .z (fun _=>.ad 2 (.bi [.ab 20 (.int .i64),.ab 21 (.int .i64)] (aB [0,1,2,3,4,18,19,20,21,22] [] [10000000]) (fun n=>cg (HF k (z.2.2.2) (z.1) (z.2.2.1) (z.2.1) (jQ k) n)) k fun _ o=>.ad 2 (.c (.ad 4 (.u 0 (.ad 1 (.u 0 .z)))) (.ad 1 (.j [.rw 10000000 140 dm] (aB [0,1,3,4,18,20,24] [] [10000000]) (BZ (jQ k) (z.1) (o.1) (z.2.2.1) (z.2.1)) (.ad 1 (.bc 3 (.t (.bQ (Up k) [(10000000,10000000)] [(10000000,10000000)] (fun _=>.z))))) (fun _=>.j [.rw 10000000 140 dm] (aB [0,3,4,18,24] [] [10000000]) (Fv (jQ k) (z.1) (z.2.2.1) (z.2.1) (o.1)) (.ad 1 (.bc 3 (.t (.bQ (A9 k (Al k)) [(10000000,10000000)] [(10000000,10000000)] (fun _=>.z))))) (fun _=>.ad 1 (.bc 3 (.t (.bQ (A9 k (Al k)) [(10000000,10000000)] [(10000000,10000000)] (fun _=>.z))))))))))))))))) (by kernel_rfl)
noncomputable def Nt(k:Nat):cX Tryz.prog am pB aF:=A9 k (Al k)
noncomputable def BQ(k:Nat):b8 (Int×List bI) aF where
 n:=63
 S:=fun z=>⟨[(0,.row 10000000),(1,ay (z.1)),(2,.clos 61 [])],[],[(10000000,⟨140,dm,(z.2)⟩)]⟩
 bg:=fun z y=>⟨[],[],[(10000000,⟨140,dm,(y)⟩)]⟩
 aq:=fun z y=>[]
 rel:=fun z y=>yi k (z.1) (z.2)=some y
theorem PK(k:Nat):cq Tryz.prog am 95 (BQ k):=dO Tryz.func95 (by kernel_rfl) rfl (BQ k) Tryz.ntmps95 [] (fun z=>yi k (z.1) (z.2)) (fun _ _ h=>h) (fun st=>bz st [.rw 10000000 140 dm]) [] [10000000] (fun z=>.ad 3 (.bi [.ab 7 (.int .i64),.ab 8 (.int .i64),.rw 10000000 140 dm] (aB [0,1,2,6,7,8] [] [10000000]) (fun n=>gD (EV k (z.1) n)) k fun _ _=>.ad 2 (.c (.ad 1 (.bQ (MN k) [(10000000,10000000)] [(10000000,10000000)] (fun _=>.z))) (.ad 1 (.bQ (MN k) [(10000000,10000000)] [(10000000,10000000)] (fun _=>.bi [.ab 6 (.int .i64),.rw 10000000 140 dm] (aB [0,1,2,6] [] [10000000]) (fun n=>cg (Em k (z.1) n)) k fun o q=>.ad 2 (.t (.ad 2 (.bi [.ab 7 (.int .i64),.ab 8 (.int .i64),.rw 10000000 140 dm] (aB [0,1,2,6,7,8] [] [10000000]) (fun n=>gD (C4 k (z.1) (q.1) (dF o) n)) k fun _ _=>.ad 2 (.c (.ad 1 (.bQ (Nt k) [(10000000,10000000)] [(10000000,10000000)] (fun _=>.z))) (.j [.rw 10000000 140 dm] (aB [0,1,2,6] [] [10000000]) (HE (dF o) (q.1)) (.ad 2 (.t (.bQ (Nt k) [(10000000,10000000)] [(10000000,10000000)] (fun _=>.z)))) (fun _=>.z)))))))))))) (by kernel_rfl)
noncomputable def YG(k:Nat):cX Tryz.prog am (Int×List bI) aF:=⟨95,BQ k,fun st=>bz st [.ab 1 (.int .i64),.rw 10000000 140 dm],fun z=>yi k (z.1) (z.2),(PK k),fun _ _ h=>h⟩
noncomputable def GG(k:Nat):b8 aF aF where
 n:=9
 S:=fun z=>⟨[(0,.row 10000000),(1,.clos 61 [])],[],[(10000000,⟨140,dm,(z)⟩)]⟩
 bg:=fun z y=>⟨[],[],[(10000000,⟨140,dm,(y)⟩)]⟩
 aq:=fun z y=>[]
 rel:=fun z y=>yq k (z)=some y
theorem abV(k:Nat):cq Tryz.prog am 60 (GG k):=dO Tryz.func60 (by kernel_rfl) rfl (GG k) Tryz.ntmps60 [] (fun z=>yq k (z)) (fun _ _ h=>h) (fun st=>bz st [.rw 10000000 140 dm]) [] [10000000] (fun _=>.bQ (YG k) [(10000000,10000000)] [(10000000,10000000)] (fun _=>.z)) (by kernel_rfl)
noncomputable def Vn(k:Nat):cX Tryz.prog am aF aF:=⟨60,GG k,fun st=>bz st [.rw 10000000 140 dm],fun z=>yq k (z),(abV k),fun _ _ h=>h⟩
noncomputable def HA(k:Nat):aS:=⟨[bV,iG,(.ab .str),.str],[fL,fL,(.int .i64)],[],fun x=>tx k (x.1) (x.2.1) (x.2.2.1) (x.2.2.2)⟩
theorem UV(k:Nat):aV Tryz.prog am 28 (HA k).aT:=M1 bk Tryz.func28 (by kernel_rfl) rfl Tryz.ntmps28 (HA k) (by kernel_rfl) [Gc k,tD k,sK k,JM k,WI k] [(4,4),(5,5),(8,123),(9,124),(10,122),(1000008,1000008),(1000009,1000009)] (fun x=>.ad 4 (.c (.iT (nx k) [(122,5),(123,6),(124,7)] [(5,122),(6,123),(7,124)]) (.ad 2 (.c (.ad 1 (.iT (nx k) [(122,5),(123,6),(124,7)] [(5,122),(6,123),(7,124)])) (.ad 2 (.bi [.ab 37 (.int .i64),.ae 122 0 (.int .i64)] (aB [2,3,4,5,8,9,10,35,36,37] [4,5,122,123,124] [1000008,1000009]) (fun n=>cg (Cv k (x.2.2.1) (x.1) (x.2.1) (x.2.2.2) n)) k fun _ _=>.ad 2 (.c (.ad 6 (.t (.iT (nx k) [(122,5),(123,6),(124,7)] [(5,122),(6,123),(7,124)]))) (.ad 4 (.c (.iT (nx k) [(122,5),(123,6),(124,7)] [(5,122),(6,123),(7,124)]) (.ad 4 (.bi [.ab 55 (.int .i64),.ae 122 0 (.int .i64),.rw 13 140 dm] (aB [3,4,5,8,9,10,13,53,54,55] [4,5,122,123,124] [13,1000008,1000009]) (fun n=>gD (Cf k (x.2.2.1) (x.1) (x.2.1) (x.2.2.2) n)) k fun o q=>.ad 2 (.c (.j [.ae 122 0 (.int .i64),.rw 13 140 dm] (aB [3,4,5,8,9,10,13,53,54,55] [4,5,122,123,124] [13,1000008,1000009]) (cg (BS (gM o) (q.1))) (.ad 9 (.c (.iT (nx k) [(122,5),(123,6),(124,7)] [(5,122),(6,123),(7,124)]) (.ad 4 (.c (.iT (nx k) [(122,5),(123,6),(124,7)] [(5,122),(6,123),(7,124)]) (.ad 2 (.f (.ad 5 (.t (.iT (nx k) [(122,5),(123,6),(124,7)] [(5,122),(6,123),(7,124)]))))))))) (fun _=>.z)) (.ad 1 (.bQ (Vn k) [(13,10000000)] [(10000000,13)] (fun O=>.ad 2 (.bi [.ab 105 (.int .i64),.rw 1000008 3 (.int .i64),.rw 1000009 3 (.int .i64)] (aB [8,9,10,103,104,105] [122,123,124] [13,1000008,1000009]) (fun n=>gD (Dz k O n)) k fun _ _=>.ad 2 (.c (.ad 3 (.u 0 .z)) (.ad 1 (.cT [[],[0],[1],[1,0],[2,0],[2,1,0],[3,2,1,0],[4,3,2,1,0]] (.iT (nx k) [(122,5),(123,6),(124,7)] [(5,122),(6,123),(7,124)])))))))))))))))))))) (by kernel_rfl)
noncomputable def Jv(k:Nat):aG Tryz.prog am:=⟨28,HA k,UV k⟩
noncomputable def zR(k:Nat):aS:=⟨[iG,.str],[(.ab .str),(.int .i64)],[],fun x=>oR k (x.1) (x.2)⟩
theorem abb(k:Nat):aV Tryz.prog am 29 (zR k).aT:=bl bk Tryz.func29 (by kernel_rfl) rfl Tryz.ntmps29 (zR k) (by kernel_rfl) [Nk k,tD k,Og k,JY k] (fun x=>.ad 6 (.f (.ad 4 (.f (.ad 4 (.bi [.ab 28 (.int .i64),.rw 8 9 .str] (aB [1,2,8,27,28] [2] [8]) (fun n=>cg (qF k (x.1) (x.2) n)) k fun o q=>.ad 2 (.t (.j [.rw 8 9 .str] (aB [1,2,8,27,28] [2] [8]) (zd (dF o) (q.1)) .z (fun _=>.z))))))))) (by kernel_rfl)
noncomputable def GZ(k:Nat):aG Tryz.prog am:=⟨29,zR k,abb k⟩
noncomputable def Aw(k:Nat):aS:=⟨[],[.bool],[],fun _=>qz k⟩
theorem ZV(k:Nat):aV Tryz.prog am 21 (Aw k).aT:=bl bk Tryz.func21 (by kernel_rfl) rfl Tryz.ntmps21 (Aw k) (by kernel_rfl) [LW k,LN k,sK k,Ds k,J1 k,Jv k,GZ k] (fun _=>.ad 10 (.gX [1,2,3,4,5,6] [1,2] [] (.ad 2 (.ac [fL,(.int .i64)] fun O=>.ad 1 (.ac [fL,fL,(.int .i64)] fun q=>.ad 1 (.gX [1,2,3,4,5,6,7,8,9,10,11,12,13] [1,2] [] (.ac [(.ab .str),(.int .i64)] fun o=>.ad 4 (.bc 2 (.bc 2 (.bc 2 (.bc 2 (.bc 2 (.bc 2 (.bc 3 (.bc 3 (.bc 3 (.bc 3 (.f (.ad 1 (.bc 2 (.bc 2 (.g 4 (AV O q o) .z .z (fun _=>.g 4 (G2 q o) .z .z (fun _=>.g 4 (GY q o) .z .z (fun _=>.g 4 (Bh o) .z .z (fun _=>.g 4 (Gh o) .z .z (fun _=>.g 4 BM .z .z (fun _=>.z)))))))))))))))))))))))))))) (by kernel_rfl)
noncomputable def EB(k:Nat):aG Tryz.prog am:=⟨21,Aw k,ZV k⟩
noncomputable def Cq(k:Nat):aS:=⟨[(.int .i64)],[.str],[],fun x=>DS k x⟩
theorem aba(k:Nat):aV Tryz.prog am 25 (Cq k).aT:=bl bk Tryz.func25 (by kernel_rfl) rfl Tryz.ntmps25 (Cq k) (by kernel_rfl) [] (fun x=>.ad 5 (.bi [.ab 4 (.int .i64),.rw 6 5 (.int .u8)] (aB [0,3,4] [] [6]) (fun n=>cg (BC x n)) k fun _ _=>.ad 2 (.t (.ad 2 (.u 0 .z))))) (by kernel_rfl)
noncomputable def Yy(k:Nat):aG Tryz.prog am:=⟨25,Cq k,aba k⟩
noncomputable def E9(k:Nat):aS:=⟨[],[.bool],[],fun _=>Yo k⟩
theorem WH(k:Nat):aV Tryz.prog am 5 (E9 k).aT:=bl bk Tryz.func5 (by kernel_rfl) rfl Tryz.ntmps5 (E9 k) (by kernel_rfl) [EB k,LW k,LN k,Yy k,sK k,Ds k,J1 k,Jv k,GZ k] (fun _=>.ad 5 (.f (.ad 10 (.gX [2,3,4,5,6] [2,3,4] [] (.ad 6 (.gX [2,3,4,5,6,8,10] [2,3,4] [] (.ad 6 (.gX [2,3,4,5,6,8,10,12,14,16] [2,3,4] [] (.ad 6 (.gX [2,3,5,6,8,10,12,14,16,18,20,22] [2,3] [] (.ad 4 (.cT [[],[0],[1],[2],[1,0],[2,0],[2,1],[2,1,0],[3,2,1,0],[4,3,2,1,0],[5,4,3,2,1,0],[6,4,3,2,1,0],[7,4,3,2,1,0],[6,5,4,3,2,1,0],[7,5,4,3,2,1,0],[8,5,4,3,2,1,0],[7,6,4,3,2,1,0],[7,6,5,4,3,2,1,0],[8,6,5,4,3,2,1,0],[8,7,5,4,3,2,1,0],[8,7,6,5,4,3,2,1,0],[9,8,6,5,4,3,2,1,0],[9,8,7,6,5,4,3,2,1,0],[10,9,8,7,6,5,4,3,2,1,0]] (.ad 3 (.gX [2,3,5,6,8,10,12,14,16,18,20,22,24,26,29] [2,3] [] (.ad 2 (.ac [fL,fL,(.int .i64)] fun o=>.ad 1 (.gX [3,5,6,8,10,12,14,16,18,20,22,24,26,29,32,33,34,35] [3] [] (.ad 3 (.bc 2 (.bc 2 (.bc 2 (.bc 2 (.bc 2 (.bc 2 (.bc 2 (.bc 2 (.bc 2 (.bc 2 (.bc 2 (.bc 2 (.bc 2 (.f (.ad 4 (.g 3 (BK o) .z .z (fun _=>.bc 2 (.bc 3 (.bc 3 .z))))))))))))))))))))))))))))))))))))) (by kernel_rfl)
noncomputable def acq(k:Nat):aG Tryz.prog am:=⟨5,E9 k,WH k⟩
noncomputable def EF(k:Nat):aS:=⟨[bV,.str],[(.int .u32),(.int .i64)],[],fun x=>I0 k (x.1) (x.2)⟩
theorem R4(k:Nat):aV Tryz.prog am 109 (EF k).aT:=bl bk Tryz.func109 (by kernel_rfl) rfl Tryz.ntmps109 (EF k) (by kernel_rfl) [iJ k,Oj k] (fun _=>.z) (by kernel_rfl)
noncomputable def Xw(k:Nat):aG Tryz.prog am:=⟨109,EF k,R4 k⟩
noncomputable def Bj(k:Nat):aS:=⟨[bV,eh,.str],[(.int .i64)],[],fun x=>zY k (x.1) (x.2.1) (x.2.2)⟩
theorem VI(k:Nat):aV Tryz.prog am 73 (Bj k).aT:=bl bk Tryz.func73 (by kernel_rfl) rfl Tryz.ntmps73 (Bj k) (by kernel_rfl) [Xw k] (fun _=>.z) (by kernel_rfl)
noncomputable def ZK(k:Nat):aG Tryz.prog am:=⟨73,Bj k,VI k⟩
noncomputable def Cl(k:Nat):aS:=⟨[bV,bV,eh,eh],[(.int .i64)],[],fun x=>Ch k (x.1) (x.2.1) (x.2.2.1) (x.2.2.2)⟩
theorem ZF(k:Nat):aV Tryz.prog am 36 (Cl k).aT:=bl bk Tryz.func36 (by kernel_rfl) rfl Tryz.ntmps36 (Cl k) (by kernel_rfl) [ZK k] (fun x=>.ad 4 (.bi [.ab 9 (.int .i64),.ab 10 (.int .i64)] (aB [4,5,6,7,9,10] [4,5,6,7] []) (fun n=>cg (Fj k (x.2.1) (x.1) (x.2.2.1) (x.2.2.2) n)) k fun o q=>.ad 2 (.t (.j [.ab 9 (.int .i64)] (aB [4,5,6,7,9,10] [4,5,6,7] []) (A8 (dF o) (q.2)) (.ad 4 (.u 0 .z)) (fun _=>.z))))) (by kernel_rfl)
noncomputable def TV(k:Nat):aG Tryz.prog am:=⟨36,Cl k,ZF k⟩
noncomputable def AJ(k:Nat):aS:=⟨[bV,bV,.str],[.bool],[],fun x=>X2 k (x.1) (x.2.1) (x.2.2)⟩
theorem aaI(k:Nat):aV Tryz.prog am 9 (AJ k).aT:=bl bk Tryz.func9 (by kernel_rfl) rfl Tryz.ntmps9 (AJ k) (by kernel_rfl) [EB k,sK k,xy k,p9 k,TV k] (fun _=>.ad 5 (.f (.ad 2 (.f (.ad 4 (.gX [2,3,4,8,9] [3,4] [] (.f (.ad 6 (.gX [2,3,4,8,10,11,12,13] [3,4] [] (.bc 2 (.bc 3 (.bc 3 (.f (.ad 1 (.ac [bq,(.int .i64)] fun v5=>.ad 1 (.ac [bq,(.int .i64)] fun q=>.ad 2 (.bc 2 (.bc 5 (.f (.ad 2 (.bi [.ab 16 (.int .i64),.ae 3 0 (.ab .str),.ae 3 1 av,.ae 4 0 (.ab .str),.ae 4 1 av] (aB [3,4,14,15,16] [3,4] []) (fun n=>Tc (HG k v5 q n)) k fun O o=>.ad 2 (.bc 2 (.t (.j [.ae 3 0 (.ab .str),.ae 3 1 av,.ae 4 0 (.ab .str),.ae 4 1 av] (aB [3,4,14,15,16] [3,4] []) (uH (C9 (yc O) (o.1))) (.ad 1 (.cT [[],[0],[1],[2],[9],[1,0],[2,0],[9,0],[2,1],[9,1],[9,2],[2,1,0],[9,1,0],[9,2,0],[3,2,1],[9,2,1],[3,2,1,0],[9,2,1,0],[4,3,2,1],[9,3,2,1],[4,3,2,1,0],[9,3,2,1,0],[9,4,3,2,1],[5,4,3,2,1,0],[9,4,3,2,1,0],[6,5,4,3,2,1,0],[9,5,4,3,2,1,0],[7,6,5,4,3,2,1,0],[8,6,5,4,3,2,1,0],[9,6,5,4,3,2,1,0],[8,7,6,5,4,3,2,1,0],[9,7,6,5,4,3,2,1,0],[9,8,6,5,4,3,2,1,0],[9,8,7,6,5,4,3,2,1,0],[10,9,7,6,5,4,3,2,1,0],[10,9,8,7,6,5,4,3,2,1,0],[11,10,9,8,7,6,5,4,3,2,1,0]] (.ad 1 (.ac [eh,(.int .i64)] fun R=>.ad 1 (.cT [[],[0],[1],[2],[9],[1,0],[2,0],[9,0],[2,1],[9,1],[9,2],[2,1,0],[9,1,0],[9,2,0],[3,2,1],[9,2,1],[3,2,1,0],[9,2,1,0],[4,3,2,1],[9,3,2,1],[4,3,2,1,0],[9,3,2,1,0],[9,4,3,2,1],[5,4,3,2,1,0],[9,4,3,2,1,0],[6,5,4,3,2,1,0],[9,5,4,3,2,1,0],[7,6,5,4,3,2,1,0],[8,6,5,4,3,2,1,0],[9,6,5,4,3,2,1,0],[8,7,6,5,4,3,2,1,0],[9,7,6,5,4,3,2,1,0],[9,8,6,5,4,3,2,1,0],[9,8,7,6,5,4,3,2,1,0],[10,9,7,6,5,4,3,2,1,0],[10,9,8,7,6,5,4,3,2,1,0],[11,10,9,8,7,6,5,4,3,2,1,0]] (.ad 1 (.ac [eh,(.int .i64)] fun U=>.ad 1 (.gX [3,4,14,15,16,17,18,19,20] [3,4,17,19] [] (.cT [[],[0],[1],[2],[9],[1,0],[2,0],[9,0],[2,1],[9,1],[9,2],[2,1,0],[9,1,0],[9,2,0],[3,2,1],[9,2,1],[3,2,1,0],[9,2,1,0],[4,3,2,1],[9,3,2,1],[4,3,2,1,0],[9,3,2,1,0],[9,4,3,2,1],[5,4,3,2,1,0],[9,4,3,2,1,0],[6,5,4,3,2,1,0],[9,5,4,3,2,1,0],[7,6,5,4,3,2,1,0],[8,6,5,4,3,2,1,0],[9,6,5,4,3,2,1,0],[8,7,6,5,4,3,2,1,0],[9,7,6,5,4,3,2,1,0],[9,8,6,5,4,3,2,1,0],[9,8,7,6,5,4,3,2,1,0],[10,9,7,6,5,4,3,2,1,0],[10,9,8,7,6,5,4,3,2,1,0],[11,10,9,8,7,6,5,4,3,2,1,0]] (.u 1 (.ac [eh,(.int .i64)] fun v9=>.ad 3 (.bc 2 (.iu 13 [.ab 156 .bool] (aB [3,4,14,15,16,17,19,22,156] [3,4,17,19] []) (DX k v9 (yc O) (o.1) (o.2.1) (o.2.2.1) (o.2.2.2.1) (o.2.2.2.2) R U q) .z (.ad 3 (.g 9 (FX k v9 (yc O) (o.1) (o.2.1) (o.2.2.1) (o.2.2.2.1) (o.2.2.2.2) R U q) .z .z (fun _=>.z))) (fun _=>.f (.ad 2 (.f (.ad 1 (.ac [(.int .i64)] fun W=>.ad 2 (.bi [.ab 24 .bool,.ab 25 (.int .i64)] (aB [3,4,14,15,16,17,23,24,25] [3,4,17] []) (fun n=>cg (BR k (o.2.2.2.2) (o.2.1) (o.2.2.1) (o.2.2.2.1) R W q (o.1) (yc O) n)) k fun Y Z=>.ad 2 (.t (.ad 4 (.ac [(.int .i64)] fun la=>.ad 2 (.g 11 (EX la W (dF Y) (Z.2)) .z (.ad 4 (.u 0 .z)) (fun t9=>.ad 1 (.iu 7 [.ab 205 .bool] (aB [3,4,14,15,16,17,23,24,25,205] [3,4,17] []) (Bx (dF Y) t9 (Z.2)) .z (.ad 4 (.bc 2 .z)) (fun _=>.z)))))))))))))))))))))))))) (fun _=>.z))))))))))))))))))))))))) (by kernel_rfl)
noncomputable def acE(k:Nat):aG Tryz.prog am:=⟨9,AJ k,aaI k⟩
noncomputable def Ap(k:Nat):aS:=⟨[iG],[.bool],[],fun x=>rN k x⟩
theorem VH(k:Nat):aV Tryz.prog am 30 (Ap k).aT:=bl bk Tryz.func30 (by kernel_rfl) rfl Tryz.ntmps30 (Ap k) (by kernel_rfl) [] (fun x=>.ad 3 (.bc 4 (.bc 4 (.iu 10 [.ab 33 .bool] (aB [1,33] [1] []) (yE k x) .z (.ad 5 (.bc 4 .z)) (fun _=>.bc 4 (.iu 10 [.ab 51 .bool] (aB [1,51] [1] []) (vm k x) .z (.ad 5 (.bc 4 .z)) (fun _=>.bc 4 (.bc 4 (.f (.ad 2 (.bi [.ab 3 (.int .i64)] (aB [1,3] [1] []) (ug k x) k fun _ _=>.ad 2 (.bc 2 (.f (.ad 2 (.bi [.ab 4 (.int .i64)] (aB [1,4] [1] []) (vh x) k fun _ _=>.ad 2 (.t (.ad 4 (.u 0 (.ad 1 (.bc 2 (.bc 2 .z))))))))))))))))))))) (by kernel_rfl)
noncomputable def TO(k:Nat):aG Tryz.prog am:=⟨30,Ap k,VH k⟩
noncomputable def Bv(k:Nat):aS:=⟨[ic,(.int .i64)],[(.int .i64)],[],fun x=>wo k (x.1) (x.2)⟩
theorem Xv(k:Nat):aV Tryz.prog am 64 (Bv k).aT:=bl bk Tryz.func64 (by kernel_rfl) rfl Tryz.ntmps64 (Bv k) (by kernel_rfl) [] (fun _=>.z) (by kernel_rfl)
noncomputable def PQ(k:Nat):aG Tryz.prog am:=⟨64,Bv k,Xv k⟩
noncomputable def Gs(k:Nat):aS:=⟨[iG,.str],[.bool],[],fun x=>uJ k (x.1) (x.2)⟩
theorem PB(k:Nat):aV Tryz.prog am 31 (Gs k).aT:=bl bk Tryz.func31 (by kernel_rfl) rfl Tryz.ntmps31 (Gs k) (by kernel_rfl) [PQ k] (fun x=>.ad 3 (.f (.ad 3 (.bi [.ab 5 (.int .i64),.it 12] (aB [2,5,12] [2,12] []) (fun n=>cg (su k (x.2) (x.1) n)) k fun _ _=>.ad 1 (.c (.ad 1 (.T .z)) (.ad 1 (.F (.ad 2 (.bc 4 (.f (.ad 3 (.bi [.ab 5 (.int .i64),.ab 6 (.int .i64),.ab 7 (.int .i64)] (aB [2,5,6,7] [2] []) (fun n=>gD (rl k (x.1) n)) k fun q o=>.ad 2 (.t (.ad 1 (.j [.ab 6 (.int .i64)] (aB [2,5,6,7] [2] []) (uP k (x.1) (o.2.2) (o.1) (gM q)) .z (fun _=>.z)))))))))))))))) (by kernel_rfl)
noncomputable def YA(k:Nat):aG Tryz.prog am:=⟨31,Gs k,PB k⟩
noncomputable def DE(k:Nat):aS:=⟨[iG,.str],[.bool],[],fun x=>u6 k (x.1) (x.2)⟩
theorem Jc(k:Nat):aV Tryz.prog am 8 (DE k).aT:=bl bk Tryz.func8 (by kernel_rfl) rfl Tryz.ntmps8 (DE k) (by kernel_rfl) [EB k,TO k,GZ k,Ds k,YA k] (fun x=>.ad 5 (.f (.ad 3 (.bc 4 (.g 3 (vr k (x.1) (x.2)) .z .z (fun _=>.f (.ad 1 (.ac [(.ab .str),(.int .i64)] fun v3=>.ad 2 (.f (.ad 3 (.bi [.ab 8 (.int .i64),.ab 9 (.int .i64),.ae 2 0 (.ab .str),.ae 2 1 av,.ae 2 2 (.int .u32),.ae 2 3 (.int .u32),.ae 2 4 zl,.ae 2 5 wC,.ae 2 6 mN,.ae 2 7 (.ab .str)] (aB [1,2,6,8,9] [2] []) (fun n=>RA (qe k (x.2) v3 n)) k fun q o=>.ad 2 (.t (.j [.ab 8 (.int .i64),.ae 2 0 (.ab .str),.ae 2 1 av,.ae 2 2 (.int .u32),.ae 2 3 (.int .u32),.ae 2 4 zl,.ae 2 5 wC,.ae 2 6 mN,.ae 2 7 (.ab .str)] (aB [1,2,6,8,9] [2] []) (KI (tV (Gz q) (o.2.1))) (.ad 1 (.ac [.str,(.int .i64)] fun v4=>.ad 2 (.f (.ad 3 (.bi [.ab 12 .bool,.ab 13 (.int .i64)] (aB [1,2,6,8,9,10,12,13] [2] []) (fun n=>cg (rp (o.1) v3 v4 (Gz q) (o.2.1) (o.2.2.1) (o.2.2.2.1) (o.2.2.2.2.1) (o.2.2.2.2.2.1) (o.2.2.2.2.2.2.1) (o.2.2.2.2.2.2.2.1) (o.2.2.2.2.2.2.2.2.1) (o.2.2.2.2.2.2.2.2.2) n)) k fun O R=>.ad 2 (.c (.ad 1 (.g 6 (xc (dF O) (R.2)) .z .z (fun _=>.z))) (.ad 2 (.f (.ad 2 (.g 6 (yA (Gz q) (o.2.1) (o.1) (o.2.2.1) (o.2.2.2.1) (o.2.2.2.2.1) (o.2.2.2.2.2.1) (o.2.2.2.2.2.2.1) (o.2.2.2.2.2.2.2.1) (o.2.2.2.2.2.2.2.2.1) (o.2.2.2.2.2.2.2.2.2)) .z .z (fun _=>.z))))))))))) (fun _=>.z)))))))))))))) (by kernel_rfl)
noncomputable def acF(k:Nat):aG Tryz.prog am:=⟨8,DE k,Jc k⟩
end Go.Ev
