/- Contracts, by program. -/
import Derived.Test.YtgkgdfmldioddaaGreatDoorProg
import Derived.Test.YtgkgdfmldioddaaGreatDoorMM6
import Derived.Test.YtgkgdfmldioddaaGreatDoorMM8
import Derived.Test.YtgkgdfmldioddaaGreatDoorMM9
import Derived.Test.YtgkgdfmldioddaaGreatDoorCtCfP1
import Derived.Test.YtgkgdfmldioddaaGreatDoorCtCfP4
import Derived.KernelRfl
import Derived.Test.YtgkgdfmldioddaaGreatDoorTyA
set_option linter.unusedSectionVars false
set_option linter.unusedVariables false
set_option linter.unusedSimpArgs false
namespace Go.Ev
open Go Go.Proofs
set_option linter.unusedVariables false
set_option maxRecDepth 100000
noncomputable def BP(k:Nat):cJ rX iu where
 n:=35
 S:=fun z=>⟨[(0,.ptr 35 0),(1,.val bg (z.1))],[(35,.cells [bd (z.2.1),.val aq (z.2.2.1),.val bh (z.2.2.2.1),.val au (z.2.2.2.2.1),.val au (z.2.2.2.2.2.1),bO (z.2.2.2.2.2.2.1),aM (z.2.2.2.2.2.2.2.1),.iter 36,.clos 163 [37]] 241),(36,.mp bf bi (z.2.2.2.2.2.2.2.2.1)),(37,.cells [.val (.ab .str) (z.2.2.2.2.2.2.2.2.2.1),.val aq (z.2.2.2.2.2.2.2.2.2.2)] 25)],[]⟩
 be:=fun z y=>⟨[],[(5,.cells [.row 10] 234),(35,.cells [bd (y.1),.val aq (y.2.1),.val bh (y.2.2.1),.val au (y.2.2.2.1),.val au (y.2.2.2.2.1),bO (y.2.2.2.2.2.1),aM (y.2.2.2.2.2.2.1),.iter 36,.clos 163 [37]] 241),(36,.mp bf bi (y.2.2.2.2.2.2.2.1)),(37,.cells [.val (.ab .str) (y.2.2.2.2.2.2.2.2.1),.val aq (y.2.2.2.2.2.2.2.2.2.1)] 25)],[(10,⟨4,.bool,(y.2.2.2.2.2.2.2.2.2.2)⟩)]⟩
 ar:=fun z y=>[.clos 169 [5]]
 rel:=fun z y=>vE k (z.1) (z.2.1) (z.2.2.1) (z.2.2.2.1) (z.2.2.2.2.1) (z.2.2.2.2.2.1) (z.2.2.2.2.2.2.1) (z.2.2.2.2.2.2.2.1) (z.2.2.2.2.2.2.2.2.1) (z.2.2.2.2.2.2.2.2.2.1) (z.2.2.2.2.2.2.2.2.2.2)=some y
theorem L4(k:Nat):cF Tryz.prog an 137 (BP k):=fp Tryz.func137 (by kernel_rfl) rfl (BP k) Tryz.ntmps137 [] (fun z=>vE k (z.1) (z.2.1) (z.2.2.1) (z.2.2.2.1) (z.2.2.2.2.1) (z.2.2.2.2.2.1) (z.2.2.2.2.2.2.1) (z.2.2.2.2.2.2.2.1) (z.2.2.2.2.2.2.2.2.1) (z.2.2.2.2.2.2.2.2.2.1) (z.2.2.2.2.2.2.2.2.2.2)) (fun _ _ h=>h) (fun st=>bW st [.ad 35 0 .str,.ad 35 1 aq,.ad 35 2 bh,.ad 35 3 au,.ad 35 4 au,.ad 35 5 (.int .u8),.ad 35 6 .bool,.mp 36 bf bi,.ad 37 0 (.ab .str),.ad 37 1 aq,.rw 10 4 .bool]) [5,35,36,37] [10] (fun z=>.ah 5 (.bw [.ab 6 (.int .i64),.ad 35 0 .str,.ad 35 1 aq,.ad 35 2 bh,.ad 35 3 au,.ad 35 4 au,.ad 35 5 (.int .u8),.ad 35 6 .bool,.mp 36 bf bi,.ad 37 0 (.ab .str),.ad 37 1 aq,.rw 10 4 .bool] (aR [0,1,5,6] [5,35,36,37] [10]) (fun n=>vN (rs k (z.1) n)) k fun o _=>.ah 2 (.t (.j [.ab 6 (.int .i64),.ad 35 0 .str,.ad 35 1 aq,.ad 35 2 bh,.ad 35 3 au,.ad 35 4 au,.ad 35 5 (.int .u8),.ad 35 6 .bool,.mp 36 bf bi,.ad 37 0 (.ab .str),.ad 37 1 aq,.rw 10 4 .bool] (aR [0,1,5,6] [5,35,36,37] [10]) (vN (vB (Cq o))) (.ah 1 (.bN (Et k) [(35,91),(36,92),(37,93)] [(91,35),(92,36),(93,37)] (fun _=>.t (.ah 2 (.u 0 .z))))) (fun _=>.z))))) (by kernel_rfl)
noncomputable def Xn(k:Nat):dp Tryz.prog an rX iu:=⟨137,BP k,fun st=>bW st [.ab 1 bg,.ad 35 0 .str,.ad 35 1 aq,.ad 35 2 bh,.ad 35 3 au,.ad 35 4 au,.ad 35 5 (.int .u8),.ad 35 6 .bool,.mp 36 bf bi,.ad 37 0 (.ab .str),.ad 37 1 aq],fun z=>vE k (z.1) (z.2.1) (z.2.2.1) (z.2.2.2.1) (z.2.2.2.2.1) (z.2.2.2.2.2.1) (z.2.2.2.2.2.2.1) (z.2.2.2.2.2.2.2.1) (z.2.2.2.2.2.2.2.2.1) (z.2.2.2.2.2.2.2.2.2.1) (z.2.2.2.2.2.2.2.2.2.2),(L4 k),fun _ _ h=>h⟩
noncomputable def DR(k:Nat):aZ:=⟨[.str],[(.int .i64)],[],fun x=>ph k x⟩
theorem Um(k:Nat):aY Tryz.prog an 167 (DR k).ba:=bt bq Tryz.func167 (by kernel_rfl) rfl Tryz.ntmps167 (DR k) (by kernel_rfl) [] (fun x=>.ah 3 (.bw [.ab 2 (.int .i64),.it 4] (aR [2,4] [4] []) (fun n=>cT (uE x n)) k fun _ _=>.ah 1 (.c (.ah 1 (.T .z)) (.ah 1 (.F .z))))) (by kernel_rfl)
noncomputable def Jf(k:Nat):aL Tryz.prog an:=⟨167,DR k,Um k⟩
noncomputable def z6(k:Nat):aZ:=⟨[.str,(.int .i64),(.ptr (.ab .bool))],[.bool],[(.ab .bool)],fun x=>Cc k (x.1) (x.2.1) (x.2.2)⟩
theorem Q3(k:Nat):aY Tryz.prog an 169 (z6 k).ba:=bt bq Tryz.func169 (by kernel_rfl) rfl Tryz.ntmps169 (z6 k) (by kernel_rfl) [] (fun _=>.z) (by kernel_rfl)
noncomputable def Vm(k:Nat):aL Tryz.prog an:=⟨169,z6 k,Q3 k⟩
noncomputable def Ca(k:Nat):aZ:=⟨[ip,ip,(.ptr ip)],[(.int .i64)],[ip],fun x=>DC k (x.1) (x.2.1) (x.2.2)⟩
theorem TL(k:Nat):aY Tryz.prog an 197 (Ca k).ba:=bt bq Tryz.func197 (by kernel_rfl) rfl Tryz.ntmps197 (Ca k) (by kernel_rfl) [Hs k] (fun _=>.z) (by kernel_rfl)
noncomputable def Jj(k:Nat):aL Tryz.prog an:=⟨197,Ca k,TL k⟩
noncomputable def A5(k:Nat):aZ:=⟨[aq,(.fn 197 (.pair (.ptr ip) .unit))],[ip],[],fun x=>Fl k (x.1) (x.2)⟩
theorem Rx(k:Nat):aY Tryz.prog an 196 (A5 k).ba:=bt bq Tryz.func196 (by kernel_rfl) rfl Tryz.ntmps196 (A5 k) (by kernel_rfl) [Jj k] (fun x=>.ah 3 (.f (.ah 4 (.bw [.ab 6 (.int .i64),.ad 5 0 (.int .i32),.ad 5 1 (.int .u32),.ad 5 2 (.int .u32)] (aR [0,1,4,5,6] [4,5] []) (fun n=>zG (si k (x.1) (x.2) n)) k fun o O=>.ah 2 (.t (.j [.ad 5 0 (.int .i32),.ad 5 1 (.int .u32),.ad 5 2 (.int .u32)] (aR [0,1,4,5,6] [4,5] []) (pd (vP (yF o) (O.1))) (.ah 4 (.t (.u 0 .z))) (fun _=>.z))))))) (by kernel_rfl)
noncomputable def Sk(k:Nat):aL Tryz.prog an:=⟨196,A5 k,Rx k⟩
noncomputable def Cj(k:Nat):aZ:=⟨[ck,(.int .i32),(.int .u32),(.int .u32)],[(.int .i32),(.int .i64)],[],fun x=>vM k (x.1) (x.2.1) (x.2.2.1) (x.2.2.2)⟩
theorem W6(k:Nat):aY Tryz.prog an 164 (Cj k).ba:=bt bq Tryz.func164 (by kernel_rfl) rfl Tryz.ntmps164 (Cj k) (by kernel_rfl) [xk k,yV k,Jj k,Sk k] (fun _=>.z) (by kernel_rfl)
noncomputable def Pb(k:Nat):aL Tryz.prog an:=⟨164,Cj k,W6 k⟩
noncomputable def CZ(k:Nat):aZ:=⟨[(.int .i32),p8,(.ptr ck)],[(.int .i32)],[ck],fun x=>Bw k (x.1) (x.2.1) (x.2.2)⟩
theorem SE(k:Nat):aY Tryz.prog an 163 (CZ k).ba:=bt bq Tryz.func163 (by kernel_rfl) rfl Tryz.ntmps163 (CZ k) (by kernel_rfl) [Pb k] (fun _=>.z) (by kernel_rfl)
noncomputable def O8(k:Nat):aL Tryz.prog an:=⟨163,CZ k,SE k⟩
noncomputable def Ea(k:Nat):cJ rX (List (Int)) where
 n:=42
 S:=fun z=>⟨[(0,.ptr 42 0),(1,.val bg (z.1))],[(42,.cells [bd (z.2.1),.val aq (z.2.2.1),.val bh (z.2.2.2.1),.val au (z.2.2.2.2.1),.val au (z.2.2.2.2.2.1),bO (z.2.2.2.2.2.2.1),aM (z.2.2.2.2.2.2.2.1),.iter 43,.clos 163 [44]] 241),(43,.mp bf bi (z.2.2.2.2.2.2.2.2.1)),(44,.cells [.val (.ab .str) (z.2.2.2.2.2.2.2.2.2.1),.val aq (z.2.2.2.2.2.2.2.2.2.2)] 25)],[]⟩
 be:=fun z y=>⟨[],[(42,.cells [bd (z.2.1),.val aq (z.2.2.1),.val bh (z.2.2.2.1),.val au (z.2.2.2.2.1),.val au (z.2.2.2.2.2.1),bO (z.2.2.2.2.2.2.1),aM (z.2.2.2.2.2.2.2.1),.iter 43,.clos 163 [44]] 241),(43,.mp bf bi (z.2.2.2.2.2.2.2.2.1)),(44,.cells [.val (.ab .str) (z.2.2.2.2.2.2.2.2.2.1),.val aq (z.2.2.2.2.2.2.2.2.2.2)] 25)],[(5,⟨21,(.int .i32),(y)⟩)]⟩
 ar:=fun z y=>[.row 5]
 rel:=fun z y=>pH k (z.1) (z.2.1) (z.2.2.1) (z.2.2.2.1) (z.2.2.2.2.1) (z.2.2.2.2.2.1) (z.2.2.2.2.2.2.1) (z.2.2.2.2.2.2.2.1) (z.2.2.2.2.2.2.2.2.1) (z.2.2.2.2.2.2.2.2.2.1) (z.2.2.2.2.2.2.2.2.2.2)=some y
theorem A8(k:Nat):cF Tryz.prog an 168 (Ea k):=fp Tryz.func168 (by kernel_rfl) rfl (Ea k) Tryz.ntmps168 [O8 k] (fun z=>pH k (z.1) (z.2.1) (z.2.2.1) (z.2.2.2.1) (z.2.2.2.2.1) (z.2.2.2.2.2.1) (z.2.2.2.2.2.2.1) (z.2.2.2.2.2.2.2.1) (z.2.2.2.2.2.2.2.2.1) (z.2.2.2.2.2.2.2.2.2.1) (z.2.2.2.2.2.2.2.2.2.2)) (fun _ _ h=>h) (fun st=>bW st [.rw 5 21 (.int .i32)]) [42,43,44] [5] (fun z=>.ah 6 (.bw [.ab 14 (.int .i64),.rw 5 21 (.int .i32)] (aR [0,1,5,12,13,14] [42,43,44] [5]) (fun n=>cT (sM k (z.2.2.2.1) (z.1) (z.2.2.2.2.2.2.2.2.2.1) (z.2.2.2.2.2.2.2.2.2.2) n)) k fun o O=>.ah 2 (.t (.j [.rw 5 21 (.int .i32)] (aR [0,1,5,12,13,14] [42,43,44] [5]) (yl (eC o) (O.1)) (.ah 3 (.f (.jJ [0,1,2,3,5,6] [4,7,8,9,10,11] [12,13,14] .z))) (fun _=>.z))))) (by kernel_rfl)
noncomputable def Xl(k:Nat):dp Tryz.prog an rX (List (Int)):=⟨168,Ea k,fun st=>bW st [.ab 1 bg,.ad 42 0 .str,.ad 42 1 aq,.ad 42 2 bh,.ad 42 3 au,.ad 42 4 au,.ad 42 5 (.int .u8),.ad 42 6 .bool,.mp 43 bf bi,.ad 44 0 (.ab .str),.ad 44 1 aq],fun z=>pH k (z.1) (z.2.1) (z.2.2.1) (z.2.2.2.1) (z.2.2.2.2.1) (z.2.2.2.2.2.1) (z.2.2.2.2.2.2.1) (z.2.2.2.2.2.2.2.1) (z.2.2.2.2.2.2.2.2.1) (z.2.2.2.2.2.2.2.2.2.1) (z.2.2.2.2.2.2.2.2.2.2),(A8 k),fun _ _ h=>h⟩
end Go.Ev
