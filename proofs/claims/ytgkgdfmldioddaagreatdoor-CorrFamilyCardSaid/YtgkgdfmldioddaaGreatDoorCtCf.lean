/- Contracts, by program. -/
import Derived.Test.YtgkgdfmldioddaaGreatDoorProg
import Derived.Test.YtgkgdfmldioddaaGreatDoorMM6
import Derived.Test.YtgkgdfmldioddaaGreatDoorMM8
import Derived.Test.YtgkgdfmldioddaaGreatDoorMM9
import Derived.Test.YtgkgdfmldioddaaGreatDoorCtCfP1
import Derived.Test.YtgkgdfmldioddaaGreatDoorCtCfP2
import Derived.Test.YtgkgdfmldioddaaGreatDoorCtCfP3
import Derived.Test.YtgkgdfmldioddaaGreatDoorCtCfP4
import Derived.Test.YtgkgdfmldioddaaGreatDoorCtCfP5
import Derived.Test.YtgkgdfmldioddaaGreatDoorCtCfP6
import Derived.Test.YtgkgdfmldioddaaGreatDoorCtCfP7
import Derived.Test.YtgkgdfmldioddaaGreatDoorCtCfP8
import Derived.Test.YtgkgdfmldioddaaGreatDoorCtCfP9
import Derived.KernelRfl
import Derived.Test.YtgkgdfmldioddaaGreatDoorTyA
set_option linter.unusedSectionVars false
set_option linter.unusedVariables false
set_option linter.unusedSimpArgs false
namespace Go.Ev
open Go Go.Proofs
set_option linter.unusedVariables false
set_option maxRecDepth 100000
noncomputable def CG(k:Nat):cJ FL iF where
 n:=91
 S:=fun z=>⟨[(0,.val kF (z.1)),(1,aw (z.2.1)),(2,aw (z.2.2.1)),(3,.row 10000000)],[],[(10000000,⟨9,.str,(z.2.2.2)⟩)]⟩
 be:=fun z y=>⟨[],[],[(3500001,⟨56,kN,(y.2)⟩),(10000000,⟨9,.str,(z.2.2.2)⟩)]⟩
 ar:=fun z y=>[.row 3500001,aw (y.1)]
 rel:=fun z y=>sa k (z.1) (z.2.1) (z.2.2.1) (z.2.2.2)=some y
theorem Tk(k:Nat):cF Tryz.prog an 20 (CG k):=fp Tryz.func20 (by kernel_rfl) rfl (CG k) Tryz.ntmps20 [yL k,EK k,DJ k] (fun z=>sa k (z.1) (z.2.1) (z.2.2.1) (z.2.2.2)) (fun _ _ h=>h) (fun st=>bW st [.ab 1 (.int .i64),.rw 3500001 56 kN]) [] [3500001,10000000] (fun z=>.ah 6 (.c (.ah 2 (.ew [3,8,9] [] [8,10000000] [(8,3500001),(10000000,10000000)])) (.ah 3 (.cg 5 (.c (.ah 2 (.ew [3,8,9] [] [8,10000000] [(8,3500001),(10000000,10000000)])) (.ah 2 (.c (.ah 2 (.ew [3,8,9] [] [8,10000000] [(8,3500001),(10000000,10000000)])) (.ah 4 (.bw [.ab 42 (.int .i64),.rw 12 65 (.arr 2 .str)] (aR [1,2,3,4,12,40,41,42] [4] [12,10000000]) (fun n=>cT (pi k (z.2.2.2) (z.1) (z.2.1) (z.2.2.1) n)) k fun O o=>.ah 2 (.c (.ah 3 (.u 0 (.ah 1 (.ac [.str,(.int .i64)] fun v2=>.ah 2 (.c (.ah 2 (.ew [3,8,9] [] [8,10000000] [(8,3500001),(10000000,10000000)])) (.ah 1 (.ac [.str,(.int .i64)] fun v3=>.ah 2 (.c (.ah 2 (.ew [3,8,9] [] [8,10000000] [(8,3500001),(10000000,10000000)])) (.ah 3 (.g 5 (vf (o.2) v2 v3 (eC O) (o.1)) .z .z (fun _=>.t (.ah 2 (.ew [3,8,9] [] [8,10000000] [(8,3500001),(10000000,10000000)]))))))))))))) (.ah 1 (.bN (Gg k) [(12,10000000)] [(3500001,88),(10000000,12)] (fun _=>.ew [3,8,9] [] [88,10000000] [(88,3500001),(10000000,10000000)]))))))))))))) (by kernel_rfl)
noncomputable def Tw(k:Nat):dp Tryz.prog an FL iF:=⟨20,CG k,fun st=>bW st [.ab 0 kF,.ab 1 (.int .i64),.ab 2 (.int .i64),.rw 10000000 9 .str],fun z=>sa k (z.1) (z.2.1) (z.2.2.1) (z.2.2.2),(Tk k),fun _ _ h=>h⟩
noncomputable def Ek(k:Nat):aZ:=⟨[kF,(.int .i64),.str],[.bool],[],fun x=>ud k (x.1) (x.2.1) (x.2.2)⟩
theorem Gi(k:Nat):aY Tryz.prog an 5 (Ek k).ba:=bt bq Tryz.func5 (by kernel_rfl) rfl Tryz.ntmps5 (Ek k) (by kernel_rfl) [WA k,P4 k,UW k,vI k,Kr k] (fun x=>.ah 2 (.ac [.bool] fun v1=>.ah 3 (.cg 3 (.f (.ah 1 (.ac [(.ab bg),(.int .i64)] fun v3=>.ah 1 (.bN (Tw k) [(47,10000000)] [(3500001,48),(10000000,47)] (fun v4=>.j [.ad 3 0 (.ab .str),.ad 3 1 aq,.ad 3 2 fY] (aR [2,3,7,8,9] [3] []) (pd (ut k v3 v1 (x.2.2))) (.ah 1 (.t (.ah 1 (.ac [.str,(.int .i64)] fun Z=>.ah 1 (.ac [bg,(.int .i64)] fun la=>.ah 3 (.bw [.ab 16 (.int .i64),.ab 17 (.int .i64)] (aR [2,3,7,8,9,10,13,14,15,16,17] [3] [48]) (fun n=>cT (tw k v4 v3 v1 (x.2.2) (x.1) la Z n)) k fun _ _=>.ah 2 (.c (.ah 5 (.u 0 (.u 0 (.u 0 (.f (.u 0 (.u 0 .z))))))) (.ah 1 (.cg 2 (.cg 4 .z)))))))))) (fun O=>.ah 2 (.c (.ah 1 (.cg 3 .z)) (.ah 1 (.ac [bg,(.int .i64)] fun v5=>.ah 2 (.cg 5 (.f (.ah 2 (.bw [.ab 20 (.int .i64)] (aR [2,3,7,8,18,20] [3] []) (so k v5 v3 (O.2.2) (x.2.2) v1 (O.1) (O.2.1)) k fun lc ld=>.ah 2 (.c (.ah 4 (.g 11 (xZ lc ld) .z (.ah 3 (.u 0 .z)) (fun _=>.z))) (.ah 2 (.bw [.ab 21 (.int .i64),.ad 3 0 (.ab .str),.ad 3 1 aq,.ad 3 2 fY] (aR [2,3,7,8,18,21] [3] []) (fun n=>zG (rZ k (x.2.2) v5 v3 v1 n)) k fun lf Y=>.ah 2 (.t (.ah 2 (.ac [.str,(.int .i64)] fun U=>.ah 3 (.bw [.ab 25 (.int .i64),.ab 26 (.int .i64),.ad 3 0 (.ab .str),.ad 3 1 aq,.ad 3 2 fY,.rw 172 21 (.int .i32)] (aR [2,3,7,8,18,21,23,24,25,26] [3] [172]) (fun n=>Tx (tm k v5 v3 (Y.1) U (yF lf) n)) k fun W o=>.ah 2 (.t (.j [.ab 25 (.int .i64),.ad 3 0 (.ab .str),.ad 3 1 aq,.ad 3 2 fY,.rw 172 21 (.int .i32)] (aR [2,3,7,8,18,21,23,24,25,26] [3] [172]) (EJ (sm (Ak W) (o.2.1))) (.ah 4 (.f (.ah 1 (.bw [.ab 25 (.int .i64)] (aR [2,3,7,8,18,21,23,24,25,26] [3] [172]) (vq (o.2.2.2.2.2) v3 (o.2.1) (Y.1) (Ak W) (o.2.2.1) (o.2.2.2.1) (o.2.2.2.2.1) U) k fun lg lh=>.ah 3 (.g 12 (yw lg lh (Ak W) (o.2.1) (o.2.2.1) (o.2.2.2.1) (o.2.2.2.2.1) (o.2.2.2.2.2) U) (.ah 5 (.u 0 .z)) .z (fun _=>.f (.ah 2 (.cg 4 .z)))))))) (fun _=>.z)))))))))))))))))))))))))) (by kernel_rfl)
noncomputable def Xp(k:Nat):aL Tryz.prog an:=⟨5,Ek k,Gi k⟩
end Go.Ev
