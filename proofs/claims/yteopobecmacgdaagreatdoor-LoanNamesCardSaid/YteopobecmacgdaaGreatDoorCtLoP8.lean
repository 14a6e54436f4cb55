/- Contracts, by program. -/
import Derived.Test.YteopobecmacgdaaGreatDoorProg
import Derived.Test.YteopobecmacgdaaGreatDoorMM6
import Derived.Test.YteopobecmacgdaaGreatDoorMM9
import Derived.Test.YteopobecmacgdaaGreatDoorCtLoP2
import Derived.Test.YteopobecmacgdaaGreatDoorCtLoP3
import Derived.Test.YteopobecmacgdaaGreatDoorCtLoP5
import Derived.Test.YteopobecmacgdaaGreatDoorCtLoP7
import Derived.KernelRfl
import Derived.Test.YteopobecmacgdaaGreatDoorTyA
set_option linter.unusedSectionVars false
set_option linter.unusedVariables false
set_option linter.unusedSimpArgs false
namespace Go.Ev
open Go Go.Proofs
set_option linter.unusedVariables false
set_option maxRecDepth 100000
noncomputable def DN(k:Nat):bP aI aI where
 n:=8
 S:=fun z=>⟨[(0,.val au (z))],[],[]⟩
 bE:=fun z y=>⟨[],[],[(3500001,⟨125,dz,(y)⟩)]⟩
 ap:=fun z y=>[.row 3500001]
 rel:=fun z y=>ov k (z)=some y
noncomputable def Sk(k:Nat):Env:=b8 Tryz.prog am 8 []
theorem Su(k:Nat):bZ Tryz.prog am 165 (DN k):=by
 refine mh (fn:=Tryz.f165) Tryz.func165 (by kernel_rfl) rfl Tryz.ntmps165 ?_
 rintro cx U V W L O h
 have o:br (Sk k) cx:=gU U V W
 replace h:ov k L=some O:=h
 unfold ov at h
 refine aG (aT (bz o [0] [] [] (orc:=[]) (by kernel_rfl) .n (aH (aG (aG (aT (ig o 1 [0,3] [] [] (orc:=[]) (by kernel_rfl) .n (Ac o (d:=4) (u:=dz) (xs:=L) (by kernel_rfl) (by kernel_rfl) fun Y Z=>(jh (aH (dg (b:=Y) (by kernel_rfl) (fun R=>?_) (fun R=>?_))))))))))))
 ·replace h:(some ([]:List aw))=some O:=by
   rw[Z R]at h
   exact h
  refine aG (aT (bz o [2] [] [2] (orc:=[]) (by kernel_rfl) .n (aH (eF (dr ?_)))))
  replace h:=Option.some.inj h
  subst h
  exact fI [2] [] [2] [(2,3500001)] (by kernel_rfl) (eV o.P [] [3500001] (.inl rfl) (by kernel_rfl) (by kernel_rfl))
 ·refine dn (aH (aG (aT ?_)))
  obtain⟨_,q,h⟩:=bind_some h
  replace q:=cV q
  refine bz o [2] [] [5] (orc:=[]) (by kernel_rfl) (.c q .n) (aH (eF ?_))
  replace h:=Option.some.inj h
  subst h
  exact fI [2] [] [5] [(5,3500001)] (by kernel_rfl) (eV o.P [] [3500001] (.inl rfl) (by kernel_rfl) (by kernel_rfl))
noncomputable def Rz(k:Nat):cn Tryz.prog am aI aI:=⟨165,DN k,fun st=>bp st [.ab 0 au],fun z=>ov k (z),(Su k),fun _ _ h=>h⟩
noncomputable def ER(k:Nat):bP b9 b9 where
 n:=8
 S:=fun z=>⟨[(0,.val bj (z))],[],[]⟩
 bE:=fun z y=>⟨[],[],[(3500001,⟨127,kY,(y)⟩)]⟩
 ap:=fun z y=>[.row 3500001]
 rel:=fun z y=>oa k (z)=some y
noncomputable def LA(k:Nat):Env:=b8 Tryz.prog am 8 []
theorem MX(k:Nat):bZ Tryz.prog am 166 (ER k):=by
 refine mh (fn:=Tryz.f166) Tryz.func166 (by kernel_rfl) rfl Tryz.ntmps166 ?_
 rintro cx U V W L O h
 have o:br (LA k) cx:=gU U V W
 replace h:oa k L=some O:=h
 unfold oa at h
 refine aG (aT (bz o [0] [] [] (orc:=[]) (by kernel_rfl) .n (aH (aG (aG (aT (ig o 1 [0,3] [] [] (orc:=[]) (by kernel_rfl) .n (Ac o (d:=4) (u:=kY) (xs:=L) (by kernel_rfl) (by kernel_rfl) fun Y Z=>(jh (aH (dg (b:=Y) (by kernel_rfl) (fun R=>?_) (fun R=>?_))))))))))))
 ·replace h:(some ([]:List bD))=some O:=by
   rw[Z R]at h
   exact h
  refine aG (aT (bz o [2] [] [2] (orc:=[]) (by kernel_rfl) .n (aH (eF (dr ?_)))))
  replace h:=Option.some.inj h
  subst h
  exact fI [2] [] [2] [(2,3500001)] (by kernel_rfl) (eV o.P [] [3500001] (.inl rfl) (by kernel_rfl) (by kernel_rfl))
 ·refine dn (aH (aG (aT ?_)))
  obtain⟨_,q,h⟩:=bind_some h
  replace q:=cV q
  refine bz o [2] [] [5] (orc:=[]) (by kernel_rfl) (.c q .n) (aH (eF ?_))
  replace h:=Option.some.inj h
  subst h
  exact fI [2] [] [5] [(5,3500001)] (by kernel_rfl) (eV o.P [] [3500001] (.inl rfl) (by kernel_rfl) (by kernel_rfl))
noncomputable def JR(k:Nat):cn Tryz.prog am b9 b9:=⟨166,ER k,fun st=>bp st [.ab 0 bj],fun z=>oa k (z),(MX k),fun _ _ h=>h⟩
noncomputable def C7(k:Nat):bP (List (Int)) (List (Int)) where
 n:=8
 S:=fun z=>⟨[(0,.val eM (z))],[],[]⟩
 bE:=fun z y=>⟨[],[],[(3500001,⟨3,(.int .i64),(y)⟩)]⟩
 ap:=fun z y=>[.row 3500001]
 rel:=fun z y=>pj k (z)=some y
noncomputable def SL(k:Nat):Env:=b8 Tryz.prog am 8 []
theorem TB(k:Nat):bZ Tryz.prog am 206 (C7 k):=by
 refine mh (fn:=Tryz.f206) Tryz.func206 (by kernel_rfl) rfl Tryz.ntmps206 ?_
 rintro cx U V W L O h
 have o:br (SL k) cx:=gU U V W
 replace h:pj k L=some O:=h
 unfold pj at h
 refine aG (aT (bz o [0] [] [] (orc:=[]) (by kernel_rfl) .n (aH (aG (aG (aT (ig o 1 [0,3] [] [] (orc:=[]) (by kernel_rfl) .n (Ac o (d:=4) (u:=(.int .i64)) (xs:=L) (by kernel_rfl) (by kernel_rfl) fun Y Z=>(jh (aH (dg (b:=Y) (by kernel_rfl) (fun R=>?_) (fun R=>?_))))))))))))
 ·replace h:(some ([]:List (Int)))=some O:=by
   rw[Z R]at h
   exact h
  refine aG (aT (bz o [2] [] [2] (orc:=[]) (by kernel_rfl) .n (aH (eF (dr ?_)))))
  replace h:=Option.some.inj h
  subst h
  exact fI [2] [] [2] [(2,3500001)] (by kernel_rfl) (eV o.P [] [3500001] (.inl rfl) (by kernel_rfl) (by kernel_rfl))
 ·refine dn (aH (aG (aT ?_)))
  obtain⟨_,q,h⟩:=bind_some h
  replace q:=cV q
  refine bz o [2] [] [5] (orc:=[]) (by kernel_rfl) (.c q .n) (aH (eF ?_))
  replace h:=Option.some.inj h
  subst h
  exact fI [2] [] [5] [(5,3500001)] (by kernel_rfl) (eV o.P [] [3500001] (.inl rfl) (by kernel_rfl) (by kernel_rfl))
noncomputable def Sa(k:Nat):cn Tryz.prog am (List (Int)) (List (Int)):=⟨206,C7 k,fun st=>bp st [.ab 0 eM],fun z=>pj k (z),(TB k),fun _ _ h=>h⟩
noncomputable def sL(k:Nat):bP A2 aJ where
 n:=59
 S:=fun z=>⟨[(0,ax (z.1)),(1,.ptr 59 0),(2,.ptr 60 0),(3,.ptr 61 0),(4,.ptr 63 0)],[(59,.cells [.val av (z.2.1)] 56),(60,.cells [aU (z.2.2.1)] 4),(61,.cells [.osl 62] 56),(62,.bn 124 ⟨gE,4,3,(.int .i64)⟩ (z.2.2.2) none),(63,.cells [.clos 205 [59,60,61,63]] 328)],[]⟩
 bE:=fun z y=>⟨[],[(59,.cells [.val av (z.2.1)] 56),(60,.cells [aU (z.2.2.1)] 4),(61,.cells [.osl 62] 56),(62,.bn 124 ⟨gE,4,3,(.int .i64)⟩ (y) none),(63,.cells [.clos 205 [59,60,61,63]] 328)],[]⟩
 ap:=fun z y=>[]
 rel:=fun z y=>mD k (z.1) (z.2.1) (z.2.2.1) (z.2.2.2)=some y
noncomputable def HQ(k:Nat)(h:bZ Tryz.prog am 205 (sL k)):cn Tryz.prog am A2 aJ:=⟨205,sL k,fun st=>bp st [.ab 0 (.int .i64),.ad 59 0 av,.ad 60 0 .bool,.bn 62 gE],fun z=>mD k (z.1) (z.2.1) (z.2.2.1) (z.2.2.2),h,fun _ _ h=>h⟩
theorem Ig:∀k:Nat,bZ Tryz.prog am 205 (sL k)
 |0=>zS Tryz.func205 (by kernel_rfl) rfl _ fun _ _ h=>nomatch (show(none:Option _)=some _ from h)
 |k+1=>de Tryz.func205 (by kernel_rfl) rfl (sL (k+1)) Tryz.ntmps205 [] (fun z=>mD (k+1) (z.1) (z.2.1) (z.2.2.1) (z.2.2.2)) (fun _ _ h=>h) (fun st=>bp st [.bn 62 gE]) [59,60,61,62,63] [] (fun z=>.ae 1 (.a gE fun o=>.ae 1 (.bG (Sa k) [] [(3500001,17)] (fun _=>.j [.rw 17 3 (.int .i64)] (az [1,2,3,4,6,7] [6,59,60,61,62,63] [17]) (w5 k (z.2.2.2) o (mD k) (z.2.1) (z.2.2.1)) (.ae 1 (.bf 3 (.t (.ci N4 .z)))) (fun q=>.ae 5 (.be [.ab 38 (.int .i64),.bn 62 gE] (az [1,2,3,4,8,36,37,38] [59,60,61,62,63] [17]) (fun n=>bY (wn q (z.2.2.2) (mD k) (z.2.1) (z.2.2.1) n)) k fun _ _=>.ae 2 (.t (.ae 3 (.u 0 (.ae 1 (.cS [[],[0],[1],[2],[3],[7],[1,0],[2,0],[3,0],[7,0],[2,1],[3,1],[7,1],[3,2],[7,2],[7,3],[8,7],[2,1,0],[3,1,0],[7,1,0],[3,2,0],[7,2,0],[7,3,0],[8,7,0],[3,2,1],[7,2,1],[7,3,1],[8,7,1],[4,3,2],[7,3,2],[8,7,2],[8,7,3],[9,8,7],[3,2,1,0],[7,2,1,0],[7,3,1,0],[8,7,1,0],[4,3,2,0],[7,3,2,0],[8,7,2,0],[8,7,3,0],[9,8,7,0],[4,3,2,1],[7,3,2,1],[8,7,2,1],[8,7,3,1],[9,8,7,1],[5,4,3,2],[7,4,3,2],[8,7,3,2],[9,8,7,2],[9,8,7,3],[4,3,2,1,0],[7,3,2,1,0],[8,7,2,1,0],[8,7,3,1,0],[9,8,7,1,0],[5,4,3,2,0],[7,4,3,2,0],[8,7,3,2,0],[9,8,7,2,0],[9,8,7,3,0],[5,4,3,2,1],[7,4,3,2,1],[8,7,3,2,1],[9,8,7,2,1],[9,8,7,3,1],[6,5,4,3,2],[7,5,4,3,2],[8,7,4,3,2],[9,8,7,3,2],[5,4,3,2,1,0],[7,4,3,2,1,0],[8,7,3,2,1,0],[9,8,7,2,1,0],[9,8,7,3,1,0],[6,5,4,3,2,0],[7,5,4,3,2,0],[8,7,4,3,2,0],[9,8,7,3,2,0],[6,5,4,3,2,1],[7,5,4,3,2,1],[8,7,4,3,2,1],[9,8,7,3,2,1],[7,6,5,4,3,2],[8,7,5,4,3,2],[9,8,7,4,3,2],[6,5,4,3,2,1,0],[7,5,4,3,2,1,0],[8,7,4,3,2,1,0],[9,8,7,3,2,1,0],[7,6,5,4,3,2,0],[8,7,5,4,3,2,0],[9,8,7,4,3,2,0],[7,6,5,4,3,2,1],[8,7,5,4,3,2,1],[9,8,7,4,3,2,1],[8,7,6,5,4,3,2],[9,8,7,5,4,3,2],[7,6,5,4,3,2,1,0],[8,7,5,4,3,2,1,0],[9,8,7,4,3,2,1,0],[8,7,6,5,4,3,2,0],[9,8,7,5,4,3,2,0],[8,7,6,5,4,3,2,1],[9,8,7,5,4,3,2,1],[9,8,7,6,5,4,3,2],[8,7,6,5,4,3,2,1,0],[9,8,7,5,4,3,2,1,0],[9,8,7,6,5,4,3,2,0],[9,8,7,6,5,4,3,2,1],[10,9,8,7,6,5,4,3,2],[9,8,7,6,5,4,3,2,1,0],[10,9,8,7,6,5,4,3,2,0],[10,9,8,7,6,5,4,3,2,1],[10,9,8,7,6,5,4,3,2,1,0],[11,10,9,8,7,6,5,4,3,2,1,0],[12,11,10,9,8,7,6,5,4,3,2,1,0],[13,12,11,10,9,8,7,6,5,4,3,2,1,0]] (.ae 1 (.u 0 (.u 0 (.bG (HQ k (Ig k)) [(59,59),(60,60),(61,61),(62,62),(63,63)] [(59,59),(60,60),(61,61),(62,62),(63,63)] (fun _=>.z)))))))))))))))) (by kernel_rfl)
noncomputable def Ov(k:Nat):cn Tryz.prog am A2 aJ:=HQ k (Ig k)
noncomputable def wv(k:Nat):bP Hv aJ where
 n:=15
 S:=fun z=>⟨[(0,.osl 15),(1,.val av (z.1)),(2,ax (z.2.1)),(3,aU (z.2.2.1))],[(15,.bn 124 ⟨gE,4,3,(.int .i64)⟩ (z.2.2.2) none)],[]⟩
 bE:=fun z y=>⟨[],[(15,.bn 124 ⟨gE,4,3,(.int .i64)⟩ (y) none)],[]⟩
 ap:=fun z y=>[.osl 15]
 rel:=fun z y=>qm k (z.1) (z.2.1) (z.2.2.1) (z.2.2.2)=some y
theorem Kg(k:Nat):bZ Tryz.prog am 193 (wv k):=de Tryz.func193 (by kernel_rfl) rfl (wv k) Tryz.ntmps193 [] (fun z=>qm k (z.1) (z.2.1) (z.2.2.1) (z.2.2.2)) (fun _ _ h=>h) (fun st=>bp st [.bn 15 gE]) [15] [] (fun _=>.ae 5 (.bG (Ov k) [(5,59),(7,60),(4,61),(15,62),(9,63)] [(59,5),(60,7),(61,4),(62,15),(63,9)] (fun _=>.z))) (by kernel_rfl)
noncomputable def Sl(k:Nat):cn Tryz.prog am Hv aJ:=⟨193,wv k,fun st=>bp st [.ab 1 av,.ab 2 (.int .i64),.ab 3 .bool,.bn 15 gE],fun z=>qm k (z.1) (z.2.1) (z.2.2.1) (z.2.2.2),(Kg k),fun _ _ h=>h⟩
noncomputable def zg(k:Nat):aQ:=⟨[jb],[jb,(.int .i64)],[],fun x=>AW k x⟩
theorem P5(k:Nat):aR Tryz.prog am 169 (zg k).aS:=bh bd Tryz.func169 (by kernel_rfl) rfl Tryz.ntmps169 (zg k) (by kernel_rfl) [Gb k] (fun _=>.ae 4 (.f (.ae 1 (.H6 (Sl k) 0 5000000 [(5000000,15)] [(15,5000000)] (fun _=>.z))))) (by kernel_rfl)
noncomputable def RT(k:Nat):aD Tryz.prog am:=⟨169,zg k,P5 k⟩
noncomputable def ze(k:Nat):aQ:=⟨[gp],[gp],[],fun x=>tX k x⟩
theorem KT(k:Nat):aR Tryz.prog am 130 (ze k).aS:=bh bd Tryz.func130 (by kernel_rfl) rfl Tryz.ntmps130 (ze k) (by kernel_rfl) [RT k] (fun x=>.ae 3 (.bG (Rz k) [] [(3500001,8)] (fun v1=>.ae 1 (.bG (JR k) [] [(3500001,12)] (fun v2=>.ae 1 (.ci T4 (.ae 1 (.ci PR (.ae 2 (.be [.ab 23 (.int .i64),.rw 12 127 kY] (az [1,2,3,22,23] [1,2,3] [8,12]) (fun n=>bY (uT k v2 v1 x n)) k fun o q=>.ae 2 (.t (.j [.rw 12 127 kY] (az [1,2,3,22,23] [1,2,3] [8,12]) (wL (dh o) (q.1)) (.ae 3 (.u 0 (.t (.my 16 (.u 0 (.u 0 (.u 0 (.u 0 .z)))))))) (fun _=>.z))))))))))))) (by kernel_rfl)
noncomputable def Ed(k:Nat):aD Tryz.prog am:=⟨130,ze k,KT k⟩
noncomputable def uP(k:Nat):aQ:=⟨[bI,gp,.str,.bool],[(.ab .str),(.int .i64)],[],fun x=>G0 (Bool.not (x.2.2.2)) (AS k (x.1) (x.2.1) (x.2.2.1))⟩
theorem T7(k:Nat):aR Tryz.prog am 99 (uP k).aS:=Ou bd Tryz.func99 (by kernel_rfl) rfl Tryz.ntmps99 (uP k) (by kernel_rfl) [rd k,Ed k] [bI,gp,.str] (fun x=>((x.1),(x.2.1),(x.2.2),false)) (fun x=>AS k (x.1) (x.2.1) (x.2.2)) (fun z y h=>by obtain⟨a0,o,a2,a3⟩:=z;obtain⟨q,h⟩:=SB h;have L:a3=false:=(by cases a3<;>first|rfl|cases q);subst L;exact⟨(a0,o,a2),rfl,h⟩) (fun _=>.ae 6 (.f (.ae 1 (.bG (Es k) [] [(3500001,29)] (fun _=>.ae 2 (.f (.ae 3 (.c (.ae 1 (.bG (mw k) [] [(2,41),(14,96),(16,95)] (fun _=>.ae 1 (.jN 29 (.bG (G9 k) [(95,161),(96,162),(41,163)] [(161,95),(162,96),(163,41),(3500001,47)] (fun _=>.z)))))) (.ae 1 (.c (.ae 1 (.bG (mw k) [] [(2,54),(14,96),(16,95)] (fun _=>.ae 1 (.jN 29 (.bG (qu k) [(95,161),(96,162),(54,163)] [(161,95),(162,96),(163,54),(3500001,60)] (fun _=>.z)))))) (.ae 1 (.cS [[],[0],[1],[1,0],[2,1],[2,1,0],[3,2,1,0],[4,3,2,1,0]] (.ae 1 (.bG (mw k) [] [(2,66),(14,96),(16,95)] (fun _=>.ae 1 (.ci rt (.ae 1 (.jN 29 (.bG (qu k) [(95,161),(96,162),(66,163)] [(161,95),(162,96),(163,66),(3500001,75)] (fun v9=>.ae 2 (.be [.ab 80 (.int .i64),.rw 75 9 .str] (az [12,16,78,79,80] [] [75]) (fun n=>bY (BZ v9 n)) k fun _ _=>.ae 2 (.t (.ae 3 (.u 0 (.ae 2 (.ci rt (.u 0 (.u 0 .z)))))))))))))))))))))))))))) (by kernel_rfl)
noncomputable def PT(k:Nat):aD Tryz.prog am:=⟨99,uP k,T7 k⟩
noncomputable def Bf(k:Nat):aQ:=⟨[bI,gp,.str],[.str,(.int .i64)],[],fun x=>GL k (x.1) (x.2.1) (x.2.2)⟩
theorem IN(k:Nat):aR Tryz.prog am 83 (Bf k).aS:=bh bd Tryz.func83 (by kernel_rfl) rfl Tryz.ntmps83 (Bf k) (by kernel_rfl) [PT k] (fun _=>.z) (by kernel_rfl)
noncomputable def Qf(k:Nat):aD Tryz.prog am:=⟨83,Bf k,IN k⟩
noncomputable def xU(k:Nat):aQ:=⟨[bI,.str,mc],[.str,(.ab (.pair (.int .i64) (.pair .str (.pair .str .unit)))),(.int .i64)],[],fun x=>Gy k (x.1) (x.2.1) (x.2.2)⟩
theorem NW(k:Nat):aR Tryz.prog am 49 (xU k).aS:=bh bd Tryz.func49 (by kernel_rfl) rfl Tryz.ntmps49 (xU k) (by kernel_rfl) [Qf k] (fun x=>.ae 6 (.be [.ab 1 .str,.ab 16 (.int .i64),.rw 9 43 (.pair (.int .i64) (.pair .str (.pair .str .unit)))] (az [1,3,9,14,15,16] [3] [9]) (fun n=>fK (BG k (x.2.2) (x.1) n)) k fun o q=>.ae 2 (.t (.ae 4 (.ac [.str,(.int .i64)] fun v1=>.ae 2 (.f (.j [.rw 9 43 (.pair (.int .i64) (.pair .str (.pair .str .unit)))] (az [3,9,12,14,15,16] [3] [9]) (yP (fW o) v1 (q.2.1)) .z (fun _=>.z)))))))) (by kernel_rfl)
noncomputable def Mk(k:Nat):aD Tryz.prog am:=⟨49,xU k,NW k⟩
noncomputable def BJ(k:Nat):aQ:=⟨[bI,mc,.str],[.str,(.int .i64)],[],fun x=>vS k (x.1) (x.2.1) (x.2.2)⟩
theorem J2(k:Nat):aR Tryz.prog am 17 (BJ k).aS:=bh bd Tryz.func17 (by kernel_rfl) rfl Tryz.ntmps17 (BJ k) (by kernel_rfl) [DO k,Mk k] (fun _=>.z) (by kernel_rfl)
noncomputable def Gj(k:Nat):aD Tryz.prog am:=⟨17,BJ k,J2 k⟩
noncomputable def Cm(k:Nat):aQ:=⟨[bI,jT,.str,(.int .i64)],[.str,(.int .i64)],[],fun x=>j4 k (x.1) (x.2.1) (x.2.2.1) (x.2.2.2)⟩
theorem TJ(k:Nat):aR Tryz.prog am 26 (Cm k).aS:=bh bd Tryz.func26 (by kernel_rfl) rfl Tryz.ntmps26 (Cm k) (by kernel_rfl) [BL k,Gj k] (fun _=>.ae 5 (.f (.ae 2 (.bf 5 .z)))) (by kernel_rfl)
noncomputable def Hl(k:Nat):aD Tryz.prog am:=⟨26,Cm k,TJ k⟩
noncomputable def wq(k:Nat):bP FJ kM where
 n:=97
 S:=fun z=>⟨[(0,.val bI (z.1)),(1,.val gp (z.2.1)),(2,bg (z.2.2.1)),(3,aU (z.2.2.2))],[],[]⟩
 bE:=fun z y=>⟨[],[],[(3500001,⟨9,.str,(y.2)⟩)]⟩
 ap:=fun z y=>[.row 3500001,ax (y.1)]
 rel:=fun z y=>rN k (z.1) (z.2.1) (z.2.2.1) (z.2.2.2)=some y
theorem Kx(k:Nat):bZ Tryz.prog am 99 (wq k):=de Tryz.func99 (by kernel_rfl) rfl (wq k) Tryz.ntmps99 [rd k,Ed k] (fun z=>rN k (z.1) (z.2.1) (z.2.2.1) (z.2.2.2)) (fun _ _ h=>h) (fun st=>bp st [.ab 1 (.int .i64),.rw 3500001 9 .str]) [] [3500001] (fun _=>.ae 6 (.c (.ae 2 (.eO [8,9] [] [8] [(8,3500001)])) (.ae 1 (.bG (Es k) [] [(3500001,29)] (fun _=>.ae 2 (.c (.ae 2 (.eO [8,9] [] [8] [(8,3500001)])) (.ae 3 (.c (.ae 1 (.bG (mw k) [] [(2,41),(14,96),(16,95)] (fun _=>.ae 1 (.jN 29 (.bG (G9 k) [(95,161),(96,162),(41,163)] [(161,95),(162,96),(163,41),(3500001,47)] (fun _=>.eO [8,9] [] [47] [(47,3500001)])))))) (.ae 1 (.c (.ae 1 (.bG (mw k) [] [(2,54),(14,96),(16,95)] (fun _=>.ae 1 (.jN 29 (.bG (qu k) [(95,161),(96,162),(54,163)] [(161,95),(162,96),(163,54),(3500001,60)] (fun _=>.eO [8,9] [] [60] [(60,3500001)])))))) (.ae 1 (.cS [[],[0],[1],[1,0],[2,1],[2,1,0],[3,2,1,0],[4,3,2,1,0]] (.ae 1 (.bG (mw k) [] [(2,66),(14,96),(16,95)] (fun _=>.ae 1 (.ci rt (.ae 1 (.jN 29 (.bG (qu k) [(95,161),(96,162),(66,163)] [(161,95),(162,96),(163,66),(3500001,75)] (fun v9=>.ae 2 (.be [.ab 80 (.int .i64),.rw 75 9 .str] (az [12,16,78,79,80] [] [75]) (fun n=>bY (Bq v9 n)) k fun _ _=>.ae 2 (.c (.ae 3 (.u 0 (.ae 2 (.ci rt (.u 0 (.u 0 .z)))))) (.ae 1 (.eO [8,9] [] [75] [(75,3500001)])))))))))))))))))))))))) (by kernel_rfl)
noncomputable def Nc(k:Nat):cn Tryz.prog am FJ kM:=⟨99,wq k,fun st=>bp st [.ab 0 bI,.ab 1 gp,.ab 2 .str,.ab 3 .bool],fun z=>rN k (z.1) (z.2.1) (z.2.2.1) (z.2.2.2),(Kx k),fun _ _ h=>h⟩
noncomputable def ya(k:Nat):aQ:=⟨[(.int .i32),(.int .i32),nH],[(.int .i64)],[mx],fun x=>ES k (x.1) (x.2.1) (x.2.2)⟩
theorem Kq(k:Nat):aR Tryz.prog am 102 (ya k).aS:=bh bd Tryz.func102 (by kernel_rfl) rfl Tryz.ntmps102 (ya k) (by kernel_rfl) [] (fun _=>.z) (by kernel_rfl)
noncomputable def D4(k:Nat):aD Tryz.prog am:=⟨102,ya k,Kq k⟩
noncomputable def B3(k:Nat):aQ:=⟨[bk,bk,(.fn 102 (.pair nH .unit))],[(.int .i64)],[],fun x=>IC k (x.1) (x.2.1) (x.2.2)⟩
theorem Pq(k:Nat):aR Tryz.prog am 84 (B3 k).aS:=bh bd Tryz.func84 (by kernel_rfl) rfl Tryz.ntmps84 (B3 k) (by kernel_rfl) [D4 k] (fun x=>.ae 3 (.be [.ab 13 (.int .i64)] (az [0,1,2,11,12,13] [] []) (zU k (x.1) (x.2.1) (x.2.2)) k fun _ _=>.z)) (by kernel_rfl)
noncomputable def Li(k:Nat):aD Tryz.prog am:=⟨84,B3 k,Pq k⟩
noncomputable def yj(k:Nat):aQ:=⟨[.str,.str,nH],[(.int .i64)],[mx],fun x=>Gi k (x.1) (x.2.1) (x.2.2)⟩
theorem KG(k:Nat):aR Tryz.prog am 101 (yj k).aS:=bh bd Tryz.func101 (by kernel_rfl) rfl Tryz.ntmps101 (yj k) (by kernel_rfl) [D4 k,Li k] (fun _=>.z) (by kernel_rfl)
noncomputable def O6(k:Nat):aD Tryz.prog am:=⟨101,yj k,KG k⟩
noncomputable def A3(k:Nat):aQ:=⟨[(.int .u64)],[(.int .i64)],[],fun x=>Dt k x⟩
theorem QI(k:Nat):aR Tryz.prog am 179 (A3 k).aS:=bh bd Tryz.func179 (by kernel_rfl) rfl Tryz.ntmps179 (A3 k) (by kernel_rfl) [] (fun _=>.ae 1 (.j [.ab 0 (.int .u64),.ab 2 (.int .i64)] (az [0,2] [] []) (bY zk) .z (fun _=>.j [.ab 0 (.int .u64),.ab 2 (.int .i64)] (az [0,2] [] []) (bY uF) .z (fun _=>.j [.ab 0 (.int .u64),.ab 2 (.int .i64)] (az [0,2] [] []) (bY tw) .z (fun _=>.z))))) (by kernel_rfl)
noncomputable def S3(k:Nat):aD Tryz.prog am:=⟨179,A3 k,QI k⟩
noncomputable def uH(k:Nat):aQ:=⟨[(.int .u64)],[(.int .i64)],[],fun x=>yv k x⟩
theorem Jx(k:Nat):aR Tryz.prog am 133 (uH k).aS:=bh bd Tryz.func133 (by kernel_rfl) rfl Tryz.ntmps133 (uH k) (by kernel_rfl) [S3 k] (fun _=>.ae 2 (.F .z)) (by kernel_rfl)
noncomputable def GV(k:Nat):aD Tryz.prog am:=⟨133,uH k,Jx k⟩
noncomputable def vw(k:Nat):bP qa cl where
 n:=53
 S:=fun z=>⟨[(0,.row 10000000),(1,ax (z.1)),(2,ax (z.2.1)),(3,.clos 101 [54])],[(54,.cells [.iter 55] 119),(55,.mp (.int .i32) (.int .i64) (z.2.2.1))],[(10000000,⟨9,.str,(z.2.2.2)⟩)]⟩
 bE:=fun z y=>⟨[],[(54,.cells [.iter 55] 119),(55,.mp (.int .i32) (.int .i64) (y.1))],[(10000000,⟨9,.str,(y.2)⟩)]⟩
 ap:=fun z y=>[]
 rel:=fun z y=>sb k (z.1) (z.2.1) (z.2.2.1) (z.2.2.2)=some y
theorem OY(k:Nat):bZ Tryz.prog am 170 (vw k):=de Tryz.func170 (by kernel_rfl) rfl (vw k) Tryz.ntmps170 [O6 k] (fun z=>sb k (z.1) (z.2.1) (z.2.2.1) (z.2.2.2)) (fun _ _ h=>h) (fun st=>bp st [.mp 55 (.int .i32) (.int .i64),.rw 10000000 9 .str]) [54,55] [10000000] (fun z=>.ae 1 (.be [.ab 8 (.int .i64),.mp 55 (.int .i32) (.int .i64),.rw 10000000 9 .str] (az [0,1,2,3,8] [54,55] [10000000]) (fun n=>fK (xz k (z.2.1) (z.1) n)) k fun q o=>.ae 2 (.t (.ae 2 (.be [.ab 9 (.int .i64),.rw 10000000 9 .str] (az [0,1,2,3,8,9] [54,55] [10000000]) (fun n=>bY (Bw k (z.1) (o.2.1) (fW q) (o.1) n)) k fun O L=>.ae 3 (.g 12 (uj (L.2) (L.1) (dh O) (fW q) (o.1) (o.2.1)) (.ae 6 (.u 0 (.ae 6 (.u 0 .z)))) .z (fun _=>.t (.ae 1 (.fl [0,1,2,3,4,5,6,7,8,10,11,12] [9,13,14] [15,16,17] (.ae 2 (.u 1 (.u 0 (.u 0 (.u 0 (.ae 1 (.u 0 .z)))))))))))))))) (by kernel_rfl)
noncomputable def Sp(k:Nat):cn Tryz.prog am qa cl:=⟨170,vw k,fun st=>bp st [.ab 1 (.int .i64),.ab 2 (.int .i64),.mp 55 (.int .i32) (.int .i64),.rw 10000000 9 .str],fun z=>sb k (z.1) (z.2.1) (z.2.2.1) (z.2.2.2),(OY k),fun _ _ h=>h⟩
noncomputable def vH(k:Nat):bP rn cl where
 n:=148
 S:=fun z=>⟨[(0,.row 10000000),(1,ax (z.1)),(2,ax (z.2.1)),(3,ax (z.2.2.1)),(4,.clos 101 [149])],[(149,.cells [.iter 150] 119),(150,.mp (.int .i32) (.int .i64) (z.2.2.2.1))],[(10000000,⟨9,.str,(z.2.2.2.2)⟩)]⟩
 bE:=fun z y=>⟨[],[(149,.cells [.iter 150] 119),(150,.mp (.int .i32) (.int .i64) (y.1))],[(10000000,⟨9,.str,(y.2)⟩)]⟩
 ap:=fun z y=>[]
 rel:=fun z y=>rU k (z.1) (z.2.1) (z.2.2.1) (z.2.2.2.1) (z.2.2.2.2)=some y
theorem L2(k:Nat):bZ Tryz.prog am 132 (vH k):=de Tryz.func132 (by kernel_rfl) rfl (vH k) Tryz.ntmps132 [] (fun z=>rU k (z.1) (z.2.1) (z.2.2.1) (z.2.2.2.1) (z.2.2.2.2)) (fun _ _ h=>h) (fun st=>bp st [.mp 150 (.int .i32) (.int .i64),.rw 10000000 9 .str]) [149,150] [10000000] (fun z=>.ae 2 (.be [] (az [0,1,2,3,4,10,11] [149,150] [10000000]) (fun n=>rO (vG k (z.2.1) (z.1) (z.2.2.2.1) (z.2.2.2.2) n)) k fun _ _=>.ae 3 (.c (.ae 1 (.bG (Sp k) [(10000000,10000000),(149,54),(150,55)] [(54,149),(55,150),(10000000,10000000)] (fun _=>.z))) (.fN [999999] [] [] .z)))) (by kernel_rfl)
noncomputable def Rt(k:Nat):cn Tryz.prog am rn cl:=⟨132,vH k,fun st=>bp st [.ab 1 (.int .i64),.ab 2 (.int .i64),.ab 3 (.int .i64),.mp 150 (.int .i32) (.int .i64),.rw 10000000 9 .str],fun z=>rU k (z.1) (z.2.1) (z.2.2.1) (z.2.2.2.1) (z.2.2.2.2),(L2 k),fun _ _ h=>h⟩
noncomputable def vm(k:Nat):bP cl cl where
 n:=14
 S:=fun z=>⟨[(0,.row 10000000),(1,.clos 101 [15])],[(15,.cells [.iter 16] 119),(16,.mp (.int .i32) (.int .i64) (z.1))],[(10000000,⟨9,.str,(z.2)⟩)]⟩
 bE:=fun z y=>⟨[],[(15,.cells [.iter 16] 119),(16,.mp (.int .i32) (.int .i64) (y.1))],[(10000000,⟨9,.str,(y.2)⟩)]⟩
 ap:=fun z y=>[]
 rel:=fun z y=>sp k (z.1) (z.2)=some y
theorem Ud(k:Nat):bZ Tryz.prog am 100 (vm k):=de Tryz.func100 (by kernel_rfl) rfl (vm k) Tryz.ntmps100 [GV k] (fun z=>sp k (z.1) (z.2)) (fun _ _ h=>h) (fun st=>bp st [.mp 16 (.int .i32) (.int .i64),.rw 10000000 9 .str]) [15,16] [10000000] (fun _=>.ae 2 (.bG (Rt k) [(10000000,10000000),(15,149),(16,150)] [(149,15),(150,16),(10000000,10000000)] (fun _=>.z))) (by kernel_rfl)
noncomputable def TK(k:Nat):cn Tryz.prog am cl cl:=⟨100,vm k,fun st=>bp st [.mp 16 (.int .i32) (.int .i64),.rw 10000000 9 .str],fun z=>sp k (z.1) (z.2),(Ud k),fun _ _ h=>h⟩
noncomputable def Bj(k:Nat):aQ:=⟨[bI,gp,.str],[(.ab .str),(.int .i64)],[],fun x=>HS k (x.1) (x.2.1) (x.2.2)⟩
theorem Qu(k:Nat):aR Tryz.prog am 65 (Bj k).aS:=bh bd Tryz.func65 (by kernel_rfl) rfl Tryz.ntmps65 (Bj k) (by kernel_rfl) [] (fun x=>.ae 3 (.bG (Nc k) [] [(3500001,19)] (fun v1=>.ae 2 (.f (.ae 3 (.be [.ab 29 (.int .i64),.mp 25 (.int .i32) (.int .i64)] (az [8,10,27,28,29] [10,25] [19]) (fun n=>bY (xd k (x.1) v1 n)) k fun _ _=>.ae 2 (.f (.ae 1 (.bG (TK k) [(19,10000000),(10,15),(25,16)] [(15,10),(16,25),(10000000,19)] (fun _=>.z)))))))))) (by kernel_rfl)
noncomputable def Kb(k:Nat):aD Tryz.prog am:=⟨65,Bj k,Qu k⟩
end Go.Ev
