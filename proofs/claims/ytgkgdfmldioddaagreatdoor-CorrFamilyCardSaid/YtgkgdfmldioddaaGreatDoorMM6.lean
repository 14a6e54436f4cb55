/- The evaluator as one function is right. -/
import Derived.Test.YtgkgdfmldioddaaGreatDoorMM5
import Derived.Test.YtgkgdfmldioddaaGreatDoorMM4
import Derived.Test.YtgkgdfmldioddaaGreatDoorMM1
import Derived.Shelf.SlSortCmp.Insertion
import Derived.Test.YtgkgdfmldioddaaGreatDoorTyA
set_option linter.unusedSectionVars false
set_option linter.unusedVariables false
set_option linter.unusedSimpArgs false
namespace Go.Ev
open Go Go.RowKit
variable [b6]
variable {R:Type} {P:Program} {G:World->Prop}
variable {cx:bB} {st st':ae} {T:Array Value} {w:World} {E:Env} {Q:cX} {ops:Array Oper} {l:List Oper}
theorem zv(o:br E cx){aa:Oper}(O:eK ops st aa=some true){orc:List aj}{ob:List Prop}(U:mS E st aa orc=some (st',[],ob))(W:bJ ob)(h:bK cx ops Q l st'):bK cx ops Q (aa::l) st:=by
 refine tM o 1 (orc:=orc) (ob:=ob++[]) ?_ (by rw[List.append_nil];exact W) h
 show fX E ops [aa] st orc=_
 unfold fX
 rw[O]
 simp only[U,fX]
theorem FI{r:R}{aa:Oper}{k:fg P G R}{orc:List aj}{ps:List Prop}{h:bc P G R}{O:List cq}(o:bz (fin E st aa k orc ps h O) r)(U:bJ ps):
  ∃st' ob,mS E st aa orc=some (st',[],ob)/\bJ ob/\bz (k st' h O) r:=by
 unfold fin at o
 split at o
 ·rename_i st' ob W
  obtain⟨e,Y⟩:=o.fG
  exact⟨st',_,W,e▸U,Y⟩
 ·exact o.no
theorem KL{lf:List (aL P G)}{bM:Nat}(U:br (cy P G bM lf) cx){r:R}{aa:Oper}{h:bc P G R}{lg:List cq}{k:fg P G R}(W:eK ops st aa=some true)(Y:cH lg)
  (o:bz (w6 lf (cy P G bM lf) st aa h lg k) r)(hk:∀st' h' lh,cH lh->bz (k st' h' lh) r->bK cx ops Q l st'):bK cx ops Q (aa::l) st:=by
 unfold w6 at o
 split at o
 ·rename_i lk h' _
  split at o
  ·rename_i ll Z
   split at o
   ·rename_i c lm
    split at o
    ·rename_i xs ln lo
     split at o
     ·rename_i st' la
      have lp:=CH (Nat.eq_of_beq_eq_true lo) ln
      subst lp
      exact Qj U lk.ok xs (lk.fn xs) rfl ll W Z lm la (hk _ _ _ Y o)
     ·exact o.no
    ·exact o.no
   ·exact o.no
  ·exact o.no
 ·rename_i α β B ρ ρ' lq _
  split at o
  ·rename_i lr Z
   split at o
   ·rename_i x lt
    obtain⟨e,li⟩:=o.eqs
    obtain⟨y,h1,O⟩:=li.ask
    split at O
    ·rename_i st' la
     exact zO U B.ok x y (B.rel x y h1) rfl W (Z.trans e) la (hk _ _ _ Y O)
    ·exact O.no
   ·exact o.no
  ·exact o.no
 ·rename_i α β B i j ρ ρ' lq _
  split at o
  ·rename_i st1 lu
   split at o
   ·rename_i lr Z
    split at o
    ·rename_i x lt
     obtain⟨e,li⟩:=o.eqs
     obtain⟨y,h1,O⟩:=li.ask
     split at O
     ·rename_i st' la
      exact Sv U B.ok x y (B.rel x y h1) rfl lu W (Z.trans e) la (hk _ _ _ Y O)
     ·exact O.no
    ·exact o.no
   ·exact o.no
  ·exact o.no
 ·have last:∀{orc:List aj} {q:eX} {h:bc P G R},bz (fc q h lg orc [] (fin (cy P G bM lf) st aa k)) r->bK cx ops Q (aa::l) st:=fun o=>by
   obtain⟨orc,ps,h',lh,lv,lw,o⟩:=jL (ps:=[]) _ Y trivial o
   obtain⟨st',ob,lc,ld,o⟩:=FI o lv
   exact zv U W lc ld (hk _ _ _ lw o)
  split at o
  ·split at o
   ·exact last o
   ·exact last o
  split at o
  ·split at o
   ·split at o
    ·rcases o.ite with ⟨lj,o⟩|⟨lj,o⟩
     ·obtain⟨st',ob,lc,ld,o⟩:=FI o ⟨of_decide_eq_true lj,trivial⟩
      exact zv U W lc ld (hk _ _ _ Y o)
     ·obtain⟨st',ob,lc,ld,o⟩:=FI o ⟨Nat.le_of_not_lt (of_decide_eq_false lj),trivial⟩
      exact zv U W lc ld (hk _ _ _ Y o)
    ·exact o.no
   ·exact o.no
  ·split at o
   ·split at o
    ·exact last o
    ·exact last o
   ·exact last o
theorem zy{aa:Oper}(h:aa.guard=none):eK ops st aa=some true:=by unfold eK;rw[h]
theorem GK{O:List (aL P G)}{bM:Nat}(U:br (cy P G bM O) cx){r:R}{aa:Oper}{h:bc P G R}{W:List cq}{k:fg P G R}(la:eK ops st aa=some true)(Y:cH W)
  (o:bz (ux O (cy P G bM O) st aa h W k) r)(hk:∀st' h' Z,cH Z->bz (k st' h' Z) r->bK cx ops Q l st'):bK cx ops Q (aa::l) st:=by
 unfold ux at o
 split at o
 ·split at o
  ·rename_i c lc ld
   have:=KL (l:=l) (ops:=ops) (Q:=Q) U (zy ld) Y o hk
   rintro T w ⟨m,lf⟩
   exact this T w ⟨m,lf.freeze (aX lc)⟩
  ·exact o.no
 ·exact KL U la Y o hk
structure vY(cx:bB)(ops:Array Oper)(ld:Nat)(r:R)(U:Type)(W:U->List Oper->ae->Prop)(N:U->ae->Prop)(fa:ae->List Oper->Option (ae×List Oper))(step:vi P G R)(cv:List Oper->ae->Option (ae×List aj×List Prop)):Prop where
 nil:∀i st,N i st->W i [] st
 norm:∀i st st' o O ar,st.norm o O ar=some st'->N i st'->N i st
 oX:∀i l st st' o O ar,st.norm o O ar=some st'->W i l st'->W i l st
 step:∀i aa l st h Y (k:fg P G R),eK ops st aa=some true->cH Y->bz (step st aa h Y k) r->(∀st' h' Z,cH Z->bz (k st' h' Z) r->W i l st')->W i (aa::l) st
 undef:∀i aa l st,eK ops st aa=some false->(match aa.dst with
  |some d=>Nat.blt d ld=true/\W i l (st.put d .undef)
  |none=>W i l st)->W i (aa::l) st
 join:∀i n l st (A:Type) (F:A->Prop) (S:A->ae),(∀a,F a->W i (l.drop n) (S a))->(∀la,(∀a,F a->N la (S a))->W la (l.take n) st)->W i l st
 fa:∀i l st st' lc,fa st l=some (st',lc)->W i lc st'->W i l st
 cv:∀i m l st s,cv (l.take m) st=some (s,[],[])->W i (l.drop m) s->W i l st
theorem xF{cv:List Oper->ae->Option (ae×List aj×List Prop)}{l:List Oper}{st:ae}{gs d:Nat}{b:Bool}{s:ae}{x:Bool}(h:qV cv l st gs b d=some (s,x)):
  ∃o,cv l (gX st gs b)=some (o,[],[])/\o.norm (d::cR (del (iJ st gs).ab d)) (cR st.ad) (cR st.rw)=some s:=by
 unfold qV at h
 split at h
 ·rename_i o h1
  split at h
  ·split at h
   ·rename_i U O
    cases h
    exact⟨o,h1,O⟩
   ·cases h
  ·cases h
 ·cases h
theorem CF{r:R}{O:List ij}{S:fP O->ae}{U:fP O->Option R}(o:bz (pN O S U st) r):∃z,st.norm (cR (S z).ab) (cR (S z).ad) (cR (S z).rw)=some (S z)/\U z=some r:=by
 unfold pN at o
 split at o
 ·rename_i z _
  obtain⟨h1,o⟩:=o.eqs
  exact⟨z,h1,o.den⟩
 ·exact o.no
theorem RK{r:R}{O:ae}{d:Nat}{U:Bool->Option R}(o:bz (sT O d U st) r):∃v,st.norm (d::cR (del O.ab d)) (cR O.ad) (cR O.rw)=some (O.put d (.val .bool v))/\U v=some r:=by
 unfold sT at o
 split at o
 ·rename_i v _
  obtain⟨h1,o⟩:=o.eqs
  exact⟨v,h1,o.den⟩
 ·exact o.no
theorem gC{lD:Nat}{r:R}{lp:Type}{W:lp->List Oper->ae->Prop}{N:lp->ae->Prop}{fa:ae->List Oper->Option (ae×List Oper)}{step:vi P G R}{cv:List Oper->ae->Option (ae×List aj×List Prop)}
  (X:vY cx ops lD r lp W N fa step cv):∀(n:Nat) {i:lp} {l:List Oper} {st:ae} {h:bc P G R} {ln:List cq} {K:fg P G R},(∀st' h' lf,cH lf->bz (K st' h' lf) r->N i st')->cH ln->
   bz (gl lD fa step cv ops n l st h ln K) r->W i l st:=by
 intro n
 induction n with
 |zero=>intro i l st h ln K _ _ o;exact o.no
 |succ n Y=>
  intro i l st h ln K ld Z o
  unfold gl at o
  split at o
  ·exact X.nil i st (ld _ _ _ Z o)
  ·rename_i aa l
   have lE:∀(m la:Nat) (b:Bool) (i:lp),gX st la b=st->(∀lr,b=lr->W i ((aa::l).take (m+1)) (gX st la lr))->W i ((aa::l).take (m+1)) st:=fun m la b i O lg=>O▸lg b rfl
   split at o
   ·rename_i lF
    split at o
    ·rename_i st' lI lJ
     exact X.fa i _ st st' lI lJ (Y ld Z o)
    ·exact X.step i aa l st h ln _ (zy lF) Z o fun st' h' lf lt lh=>Y ld lt lh
   ·rename_i g lF
    split at o
    ·rename_i m h'
     split at o
     ·rename_i la b d lu af
      split at o
      ·rename_i lK lL lM lN h1 lv
       obtain⟨O,lw⟩:=o.eqs
       obtain⟨li,lx⟩:=lw.eqs
       obtain⟨lj,ly⟩:=lx.eqs
       have li:=Option.some.inj li
       have lj:=Option.some.inj lj
       have lq:=Y (i:=i) ld Z ly
       have O:=Option.some.inj O
       cases b with
       |true=>
        obtain⟨lk,U,lc⟩:=xF h1
        refine X.cv i (m+1) (aa::l) st lk (by rw[O]at U;exact U) ?_
        exact X.oX i _ _ _ _ _ _ lc (li▸lq)
       |false=>
        obtain⟨lk,U,lc⟩:=xF lv
        refine X.cv i (m+1) (aa::l) st lk (by rw[O]at U;exact U) ?_
        exact X.oX i _ _ _ _ _ _ lc (lj▸lq)
      ·exact o.no
     ·exact o.no
    ·rename_i m lo lG
     split at o
     ·rename_i la b d lu af
      split at o
      ·rename_i lK lL lM lN h1 lv
       obtain⟨O,lw⟩:=o.eqs
       obtain⟨li,lx⟩:=lw.eqs
       obtain⟨lj,ly⟩:=lx.eqs
       have li:=Option.some.inj li
       have lj:=Option.some.inj lj
       obtain⟨lg,lO⟩:=ly.gj
       have lq:=Y (i:=i) ld cH.nil (lg _ lO.den)
       have O:=Option.some.inj O
       cases b with
       |true=>
        obtain⟨lk,U,lc⟩:=xF h1
        refine X.cv i (m+1) (aa::l) st lk (by rw[O]at U;exact U) ?_
        exact X.oX i _ _ _ _ _ _ lc (li▸lq)
       |false=>
        obtain⟨lk,U,lc⟩:=xF lv
        refine X.cv i (m+1) (aa::l) st lk (by rw[O]at U;exact U) ?_
        exact X.oX i _ _ _ _ _ _ lc (lj▸lq)
      ·exact o.no
     ·exact o.no
    ·rename_i m lo lP lQ lG
     split at o
     ·rename_i la b d lu af
      obtain⟨O,o⟩:=o.eqs
      obtain⟨lg,o⟩:=o.gj
      have O:=Option.some.inj O
      refine X.join i (m+1) (aa::l) st Bool (fun v=>lo v=some r) (fun v=>(iJ st la).put d (.val .bool v)) (fun v lz=>Y ld cH.nil (lg v lz)) fun ll lA=>?_
      have fin:∀st' (h':bc P G R) (lf:List cq),cH lf->bz (sT (iJ st la) d lo st') r->N ll st':=fun st' _ _ _ lh=>by
       obtain⟨v,U,lc⟩:=RK lh
       exact X.norm ll _ _ _ _ _ U (lA v lc)
      refine lE m la b ll O fun lr lB=>?_
      subst lB
      rcases o.ite with ⟨e,lm⟩|⟨e,lm⟩
      ·rw[e];exact Y fin Z lm
      ·rw[e];exact Y fin Z lm
     ·exact o.no
    ·rename_i m lH S lo lP lQ lG
     split at o
     ·rename_i la b lu
      obtain⟨O,o⟩:=o.eqs
      obtain⟨lg,o⟩:=o.gj
      have O:=Option.some.inj O
      refine X.join i (m+1) (aa::l) st (fP lH) (fun v=>lo v=some r) (S st) (fun v lz=>Y ld cH.nil (lg v lz)) fun ll lA=>?_
      have fin:∀st' (h':bc P G R) (lf:List cq),cH lf->bz (pN lH (S st) lo st') r->N ll st':=fun st' _ _ _ lh=>by
       obtain⟨v,U,lc⟩:=CF lh
       exact X.norm ll _ _ _ _ _ U (lA v lc)
      refine lE m la b ll O fun lr lB=>?_
      subst lB
      rcases o.ite with ⟨e,lm⟩|⟨e,lm⟩
      ·rw[e];exact Y fin Z lm
      ·rw[e];exact Y fin Z lm
     ·exact o.no
    ·split at o
     ·rename_i lC
      exact X.step i aa l st _ ln _ lC Z o fun st' h' lf lt lh=>Y ld lt lh
     ·rename_i lC
      refine X.undef i aa l st lC ?_
      split at o
      ·rename_i d af
       split at o
       ·rename_i lR
        try rw[af]
        exact⟨lR,Y ld Z o⟩
       ·exact o.no
      ·rename_i af
       try rw[af]
       exact Y ld Z o
     ·exact o.no
theorem su{o:List (aL P G)}{bM:Nat}(O:br (cy P G bM o) cx)(r:R):vY cx ops bM r cX (fun Q l st=>bK cx ops Q l st) (fun Q st=>N cx Q .normal st) (xE (cy P G bM o)) (ux o (cy P G bM o)) (fun l st=>fX (cy P G bM o) ops l st []) where
 nil:=fun _ _ h=>jg h
 norm:=fun _ _ _ _ _ _ U h=>h.norm U
 oX:=fun _ _ _ _ _ _ _ U h=>h.norm U
 step:=fun _ _ _ _ _ _ _ W Y Z hk=>GK O W Y Z hk
 undef:=fun Q aa l st W h=>by
  split at h
  ·rename_i d af
   refine tM O 1 (orc:=[]) (ob:=[]) ?_ trivial h.2
   show fX _ ops [aa] st []=_
   unfold fX
   rw[W]
   simp only[af,show Nat.blt d (cy P G bM o).n=true from h.1,fX]
  ·rename_i af
   refine tM O 1 (orc:=[]) (ob:=[]) ?_ trivial h
   show fX _ ops [aa] st []=_
   unfold fX
   rw[W]
   simp only[af,fX]
 join:=fun _ n _ _ _ F S la lc=>ji F S n la fun h=>lc _ h
 fa:=fun _ _ _ _ _ ld h=>TF O ld h
 cv:=fun _ m _ _ _ U h=>tM O m U trivial h
theorem nn{U:List (aL P G)}{bM:Nat}(lc:br (cy P G bM U) cx)(r:R):vY cx ops bM r (World->Act->Prop) (fun K l st=>oY cx ops K l st) (fun K st=>rM cx K st) (fun _ _=>none) (A1 U (cy P G bM U)) (fun l st=>gB (cy P G bM U) ops l st []) where
 nil:=fun _ _ h=>UH h
 norm:=fun _ _ _ _ _ _ W h=>fun T w O=>h T w (O.norm W)
 oX:=fun _ _ _ _ _ _ _ W h=>fun T w O=>h T w (O.norm W)
 step:=fun K aa l st h lp k la lf o hk=>by
  unfold A1 at o
  split at o
  ·rename_i d af
   split at o
   ·rename_i lg
    obtain⟨orc,ps,h',lq,lh,li,o⟩:=jL (orc:=[]) (ps:=[]) _ lf trivial o
    unfold KS at o
    split at o
    ·rename_i aJ ob ld
     obtain⟨e,lj⟩:=o.fG
     intro T w O
     have lk:=hk _ _ _ li lj
     have:=nx (P:=cx.P) (ops:=ops) (l1:=[aa]) (l2:=l) (C:=Ext w) (Q':=K w) (a:=⟨T,[]⟩)
      (oo lc (l:=[aa]) (orc:=orc) (orc':=[]) (ob:=ob++[]) O (by unfold gB;rw[la];simp only[af,ld,lg,gB]) (by rw[List.append_nil,e];exact lh) fun Y Z=>lk Y w Z)
     exact this
    ·exact o.no
   ·exact o.no
  ·exact o.no
 undef:=fun K aa l st la h=>by
  intro T w O
  have key:∀st',gB (cy P G bM U) ops [aa] st []=some (st',[],[])->oY cx ops K l st'->wpQuiet cx.P ops (Ext w) (K w) (aa::l) ⟨T,[]⟩:=fun st' ld ll=>
   nx (P:=cx.P) (ops:=ops) (l1:=[aa]) (l2:=l) (oo lc O ld trivial fun Y Z=>ll Y w Z)
  split at h
  ·rename_i d af
   refine key (st.put d .undef) ?_ h.2
   unfold gB
   rw[la]
   simp only[af,show Nat.blt d (cy P G bM U).n=true from h.1,gB]
  ·rename_i af
   refine key st ?_ h
   unfold gB
   rw[la]
   simp only[af,gB]
 fa:=fun _ _ _ _ _ lm _=>by cases lm
 join:=fun _ n _ _ _ F S ln lo=>PV F S n ln fun K h=>lo K h
 cv:=fun K m l st s W h=>by
  intro T w O
  have:=nx (P:=cx.P) (ops:=ops) (l1:=l.take m) (l2:=l.drop m) (oo lc O W trivial fun Y Z=>h Y w Z)
  rwa [List.take_append_drop]at this
theorem zq{U:List (aL P G)}{bM:Nat}(Y:br (cy P G bM U) cx)(r:R):vY cx ops bM r (World->Act->Prop) (fun K l st=>oT cx ops K l st) (fun K st=>rM cx K st) (fun _ _=>none) (Az U (cy P G bM U)) (fun _ _=>none) where
 nil:=fun _ _ h=>Nl h
 norm:=fun _ _ _ _ _ _ O h=>fun T w Z=>h T w (Z.norm O)
 oX:=fun _ _ _ _ _ _ _ O h=>fun T w Z=>h T w (Z.norm O)
 step:=fun K aa l st h ln k W la o hk=>by
  unfold Az at o
  split at o
  ·rename_i d af
   split at o
   ·rename_i lc
    obtain⟨orc,ps,h',lo,ld,lf,o⟩:=jL (orc:=[]) (ps:=[]) _ la trivial o
    unfold Hi at o
    split at o
    ·rename_i aJ ob lg
     split at o
     ·rename_i lh
      obtain⟨e,li⟩:=o.fG
      have lj:=hk _ _ _ lf li
      exact E7 Y (orc:=orc) (ob:=ob++[]) (by unfold jf;rw[W];simp only[af,lg,lc,lh,jf]) (by rw[List.append_nil,e];exact ld) lj
     ·exact o.no
    ·exact o.no
   ·exact o.no
  ·exact o.no
 undef:=fun K aa l st W h=>by
  split at h
  ·rename_i d af
   refine E7 Y (orc:=[]) (ob:=[]) (st':=st.put d .undef) ?_ trivial h.2
   unfold jf
   rw[W]
   simp only[af,show Nat.blt d (cy P G bM U).n=true from h.1,jf]
  ·rename_i af
   refine E7 Y (orc:=[]) (ob:=[]) (st':=st) ?_ trivial h
   unfold jf
   rw[W]
   simp only[af,jf]
 fa:=fun _ _ _ _ _ lk _=>by cases lk
 join:=fun _ n _ _ _ F S ll lm=>Qs F S n ll fun K h=>lm K h
 cv:=fun _ _ _ _ _ O _=>by cases O
theorem SH{lc:List (aL P G)}{bM:Nat}(ld:br (cy P G bM lc) cx){r:R}{aa:Oper}{d:Nat}{orc:List aj}{ps:List Prop}{lf:List Nat}{K:fg P G R}(lj:iL aa=true)(lk:bJ ps)(ll:∀st' h' Y,cH Y->bz (K st' h' Y) r->N cx Q .normal st'):
  ∀(U:List Nat) {st:ae} {h:bc P G R} {Z:List cq},cH Z->bz (sO lc (cy P G bM lc) ops aa d orc ps lf K U st h Z) r->∀T w,Ev.R cx st T w->jw cx.P ops (dB Q) aa d lf U ⟨T,[]⟩ w:=by
 intro U
 induction U with
 |nil=>
  intro st h Z lg o T w W
  unfold sO qy at o
  unfold jw
  refine gC (su ld r) 5000 (i:=dB Q) ?_ lg o T w W
  exact fun st' h' Y lh O T w W=>⟨rfl,ll _ _ _ lh O T w W⟩
 |cons c U lm=>
  intro st h Z lg o T w W
  unfold sO at o
  split at o
  case h_2=>exact o.no
  rename_i lw ln
  split at o
  case h_2=>exact o.no
  rename_i lo
  refine C8 ln (GK (ops:=ops) (l:=[]) (Q:=jD cx ops aa d lf U Q) ld lo lg o fun st' h' Y lh O=>?_) W
  split at O
  case h_2=>exact O.no
  rename_i lx aJ lp lq
  split at O
  case h_2=>exact O.no
  rename_i af
  obtain⟨la,lr⟩:=O.eqs
  obtain⟨lt,lu⟩:=lr.fG
  have la:=Option.some.inj la
  simp only[ae.mk.injEq,List.cons.injEq,Prod.mk.injEq,and_true,true_and]at la
  subst la
  exact jg fun lv w' li=>⟨rfl,E2 ld li lj lp (lt▸lk) lq af,lm lh lu lv w' li⟩
theorem OR{U:List (aL P G)}{bM:Nat}(Z:br (cy P G bM U) cx){r:R}{K:fg P G R}{bC:World}(la:∀st' h' W,cH W->bz (K st' h' W) r->N cx Q .normal st'):
  ∀(C:List Nat) {st:ae} {h:bc P G R} {O:List cq},cH O->bz (yg U (cy P G bM U) ops K C st h O) r->∀T w,Ev.R cx st T w->Ext bC w->jH cx.P ops (dB Q) (Ext bC) (bx ops C) ⟨T,[]⟩ w:=by
 intro C
 induction C with
 |nil=>
  intro st h O Y o T w lc lm
  exact⟨rfl,la _ _ _ Y o T w lc⟩
 |cons c C ld=>
  intro st h O Y o
  unfold yg at o
  split at o
  case h_2=>exact o.no
  rename_i aa lf
  split at o
  case h_2=>exact o.no
  rename_i d lg af
  split at o
  case h_2=>exact o.no
  rename_i lh
  obtain⟨orc,ps,h',W,li,lj,o⟩:=jL (orc:=[]) (ps:=[]) _ Y trivial o
  dsimp only at o
  split at o
  case h_2=>exact o.no
  rename_i aJ orc' ob lk
  obtain⟨e,ll⟩:=o.fG
  unfold bx
  rw[lf]
  exact SO Z lg af lh lk (e▸li) (ld lj ll)
theorem Ss{id:Nat}{l:List Oper}(n:Nat)(o:cx.P.follows .mixedOrders=true)(O:Region.lexTailB .any l.toArray n=true)
  (h:oY cx l.toArray (fun w a=>∀w',Ext w w'->wpList cx.P l.toArray Q (l.drop n) a w') (l.take n) st):W cx Q (.region id l.toArray true) st:=by
 intro T w U
 exact MZ (C:=Ext w) n o O (Ext.refl w).drew (h T w U)
theorem HB{h:bc P G R}{s:ae}{e:Exit}(o:sl h st=some s)(O:N cx Q e s):N cx Q e st:=by
 unfold sl at o
 split at o
 ·exact MB _ _ _ _ o O
 ·cases o;exact O
theorem Li{r:R}{a:ae->bp R}{K:mR P G R}{Q':Act->World->Prop}(U:∀st,bz (a st) r->N cx (Exit.then Q' Q) .normal st)(W:∀e st h o,cH o->bz (K e st h o) r->N cx Q e st):
  ∀e st h o,cH o->bz (ends a K e st h o) r->N cx (Exit.then Q' Q) e st:=by
 intro e st h o Y O
 cases e with
 |normal=>
  unfold ends at O
  dsimp only at O
  split at O
  ·rename_i s Z
   exact HB Z (U s O)
  ·exact O.no
 |_=>exact W _ st h o Y O
/-! Regions gone through in any order. -/
theorem Rj{o:List (Nat×fI P G)}{n:Nat}{v:fI P G}(h:tt o n=some v):∃k,(k,v)∈o:=by
 induction o with
 |nil=>cases h
 |cons p r U=>
  obtain⟨k,u⟩:=p
  unfold tt at h
  cases O:Nat.beq k n with
  |true=>rw[O]at h;cases h;exact⟨k,List.mem_cons_self⟩
  |false=>
   rw[O]at h
   obtain⟨k',hk⟩:=U h
   exact⟨k',List.mem_cons_of_mem _ hk⟩
theorem tK{r:R}{aa:Oper}{K:ae->bc P G R->List cq->fI P G->bp R}{q:eX}{h:bc P G R}{U:List cq}{orc:List aj}(W:cH U)(o:bz (fc q h U orc [] (pM E st aa K)) r):
  ∃st' h' O cU,cH O/\pc cU/\bz (K st' h' O cU) r:=by
 obtain⟨orc,ps,h',O,Y,Z,o⟩:=jL (ps:=[]) _ W trivial o
 unfold pM at o
 split at o
 ·exact⟨_,_,_,.aa orc ps,Z,Y,o⟩
 ·exact o.no
theorem UC{s:ae}{z:Option Nat}(h:sr st z=some s)(o:bK cx ops Q l s):bK cx ops Q l st:=by
 unfold sr at h
 split at h
 ·cases h;exact o
 ·split at h
  ·rename_i c O
   cases h
   rintro T w ⟨m,U⟩
   exact o T w ⟨m,U.freeze (aX O)⟩
  ·cases h
theorem Ir{r:R}{aa:Oper}{z:Option Nat}{h:bc P G R}{U:List cq}{K:ae->bc P G R->List cq->fI P G->bp R}(Y:cH U)(o:bz (vQ E st aa z h U K) r):
  ∃st' h' W cU,cH W/\pc cU/\bz (K st' h' W cU) r:=by
 unfold vQ at o
 split at o
 ·rename_i α β B ρ ρ' la
  split at o
  ·split at o
   ·split at o
    ·obtain⟨_,Z⟩:=o.eqs
     obtain⟨y,h1,O⟩:=Z.ask
     split at O
     ·exact⟨_,_,_,.b z B ρ ρ' _ y,Y,h1,O⟩
     ·exact O.no
    ·exact o.no
   ·exact o.no
  ·exact o.no
 ·exact o.no
theorem Vh{Y:List (aL P G)}{r:R}{aa:Oper}{h:bc P G R}{U:List cq}{K:ae->bc P G R->List cq->fI P G->bp R}(O:cH U)(o:bz (Eg Y E st aa h U K) r):
  ∃st' h' W cU,cH W/\pc cU/\bz (K st' h' W cU) r:=by
 unfold Eg at o
 split at o
 ·exact Ir O o
 ·exact Ir O o
 ·split at o
  ·split at o
   ·exact tK O o
   ·exact tK O o
  ·split at o
   ·split at o
    ·exact tK O o
    ·exact tK O o
   ·exact tK O o
theorem I7{ld:List (aL P G)}{r:R}{K:bc P G R->List cq->List (Nat×fI P G)->bp R}:∀(is:List Nat) {st:ae} {h:bc P G R} {O:List cq} {U:List (Nat×fI P G)},cH O->(∀p∈U,pc p.2)->
  bz (vK ld E ops is st h O U K) r->∃h' W lc,cH W/\(∀p∈lc,pc p.2)/\bz (K h' W lc) r
 |[],st,h,O,U,Y,Z,o=>⟨h,O,U,Y,Z,o⟩
 |i::is,st,h,O,U,Y,Z,o=>by
  unfold vK at o
  split at o
  ·obtain⟨st',h',W,cU,lf,lg,o⟩:=Vh Y o
   refine I7 is lf (fun p la=>?_) o
   rcases List.mem_cons.1 la with rfl|la
   ·exact lg
   ·exact Z p la
  ·exact o.no
theorem Ol{W:List (aL P G)}{bM:Nat}(Y:br (cy P G bM W) cx){r:R}{s t:ae}{aa:Oper}{rest:bp R}{cU:fI P G}(Z:pc cU)(la:aa.guard=none)(o:bz (Dt (cy P G bM W) s aa t rest cU) r):sy cx ops aa s t/\bz rest r:=by
 unfold Dt at o
 split at o
 ·split at o
  ·rename_i lc ob ld
   obtain⟨O,o⟩:=o.eqs
   obtain⟨lf,o⟩:=o.fG
   exact⟨fun Q U=>zv Y (zy la) ld (lf▸Z) (jg (U.norm O)),o⟩
  ·exact o.no
 ·rename_i z α β B ρ ρ' x y
  split at o
  ·rename_i lj lg
   split at o
   ·rename_i lk lc h1 lh
    obtain⟨li,o⟩:=o.eqs
    obtain⟨O,o⟩:=o.eqs
    exact⟨fun Q U=>UC lg (zO Y B.ok x y (B.rel x y Z) rfl (zy la) (h1.trans li) lh (jg (U.norm O))),o⟩
   ·exact o.no
  ·exact o.no
theorem Ld{U:List (aL P G)}{bM:Nat}(Y:br (cy P G bM U) cx){r:R}{W:List (Nat×fI P G)}{st:ae}{rest:bp R}(Z:∀p∈W,pc p.2):∀(l:List (List Nat×Nat)),bz (yC (cy P G bM U) ops W st l rest) r->
  (∀p∈l,∃aa s la,ops[p.2]? =some aa/\pe (cy P G bM U) ops W st p.1=some s/\pe (cy P G bM U) ops W st (oz p.2 p.1)=some la/\sy cx ops aa s la)/\bz rest r
 |[],o=>⟨fun p O=>(by cases O),o⟩
 |(li,i)::l,o=>by
  unfold yC at o
  split at o
  ·rename_i s t aa cU h1 lc ld lf
   split at o
   ·rename_i lg
    obtain⟨k,hk⟩:=Rj lf
    obtain⟨lh,o⟩:=Ol (ops:=ops) Y (Z _ hk) lg o
    obtain⟨i1,i2⟩:=Ld Y Z l o
    refine⟨fun p O=>?_,i2⟩
    rcases List.mem_cons.1 O with rfl|O
    ·exact⟨aa,s,t,ld,h1,lc,lh⟩
    ·exact i1 p O
   ·exact o.no
  ·exact o.no
theorem M7{O:List (aL P G)}{bM:Nat}(Y:br (cy P G bM O) cx){r:R}{id:Nat}{ld:List (List Nat)}{h:bc P G R}{Z:List cq}{K:fg P G R}{Q:cX}
  (lf:∀st' h' U,cH U->bz (K st' h' U) r->N cx Q .normal st')(lg:cH Z)(o:bz (CP O (cy P G bM O) ops ld st h Z K) r):W cx Q (.region id ops true) st:=by
 unfold CP at o
 split at o
 ·rename_i lh li
  obtain⟨h',U,lj,lk,ll,o⟩:=I7 _ lg (fun p lm=>(by cases lm)) o
  split at o
  ·rename_i t ln
   obtain⟨h1,lo⟩:=Ld (cx:=cx) Y ll _ o
   refine Oo (by rw[Y.P];exact lh) li (S:=pe (cy P G bM O) ops lj st) (fun la lp i lq=>?_) rfl fun s lc=>?_
   ·exact h1 (la,i) (List.mem_flatMap.2 ⟨la,lp,List.mem_map.2 ⟨i,lq,rfl⟩⟩)
   ·rw[ln]at lc
    cases lc
    exact lf _ _ _ lk lo
  ·exact o.no
 ·exact o.no
theorem FC{ln:List (aL P G)}{bM:Nat}(O:br (cy P G bM ln) cx){r:R}{id:Nat}{ops:Array Oper}{draw:Bool}{st:ae}{h:bc P G R}{lq:List cq}{K:mR P G R}{Q:cX}
  (lw:∀e st' h' lc,cH lc->bz (K e st' h' lc) r->N cx Q e st')(lh:cH lq)(Z:bz (tB ln (cy P G bM ln) ops draw st h lq K) r):W cx Q (.region id ops draw) st:=by
 obtain⟨l⟩:=ops
 unfold tB at Z
 have li:∀st' h' lc,cH lc->bz (K .normal st' h' lc) r->N cx Q .normal st':=fun _ _ _=>lw _ _ _ _
 split at Z
 ·exact aK (gC (su O r) 5000 (i:=Q) li lh Z)
 ·split at Z
  ·rename_i m h'
   split at Z
   ·rename_i lf lg
    refine Ss m (by rw[O.P];exact lf) lg ?_
    refine gC (nn O r) 5000 (i:=fun w a=>∀w',Ext w w'->wpList cx.P l.toArray Q (l.drop m) a w') ?_ lh Z
    intro st' h' lc U o T w la w' ld
    exact gC (su O r) 5000 (i:=Q) li U o T w' (la.ext ld)
   ·exact Z.no
  ·rename_i a b c h'
   split at Z
   ·rename_i lf lg lj
    refine QO (Q:=Q) a b c (by rw[O.P];exact lf) lg (Nat.eq_of_beq_eq_true lj) ?_
    refine gC (zq O r) 5000 (i:=fun w Y=>wpQuiet cx.P l.toArray (Ext w) (fun Y=>∀w',Ext w w'->wpList cx.P l.toArray (dB Q) (bx l.toArray c) Y w') (bx l.toArray b) Y) ?_ lh Z
    intro st' h' lc U o T w la
    refine gC (nn O r) 5000 (i:=fun w Y=>∀w',Ext w w'->wpList cx.P l.toArray (dB Q) (bx l.toArray c) Y w') ?_ U o T w la
    intro st' h' lc U o T w la w' ld
    refine gC (su O r) 5000 (i:=dB Q) ?_ U o T w' (la.ext ld)
    intro st' h' lc U o T w la
    exact⟨rfl,li _ _ _ U o T w la⟩
   ·exact Z.no
  ·rename_i a b i c c2 h'
   split at Z
   case h_2=>exact Z.no
   rename_i aa lx
   split at Z
   case h_2=>exact Z.no
   rename_i d af ly lo lf lg
   rw[af]at lo
   simp only[Bool.and_eq_true,Bool.not_eq_true',Option.getD_some]at lo
   obtain⟨lr,lz,lt,lj⟩:=lo
   refine Ge (Q:=Q) O a b i c c2 lf lg (Nat.eq_of_beq_eq_true lj) lx af ly lz lt ?_
   refine gC (zq O r) 5000 (i:=fun w Y=>wpQuiet cx.P l.toArray (Ext w) (fun Y=>∀w',Ext w w'->d<Y.tmps.size/\∃v,(execOp Y.eval aa).run cx.P w'=.ok (.value v) w'/\jw cx.P l.toArray (dB Q) aa d c2 c (Y.put aa.dst v) w') (bx l.toArray b) Y) ?_ lh Z
   intro st' h' lc U o T w la
   refine gC (nn O r) 5000 (i:=fun w Y=>∀w',Ext w w'->d<Y.tmps.size/\∃v,(execOp Y.eval aa).run cx.P w'=.ok (.value v) w'/\jw cx.P l.toArray (dB Q) aa d c2 c (Y.put aa.dst v) w') ?_ U o T w la
   intro st' h' lc U o T w la w' ld
   unfold Ii at o
   obtain⟨orc,ps,h',lc,lu,U,o⟩:=jL (orc:=[]) (ps:=[]) _ U trivial o
   dsimp only at o
   split at o
   case h_2=>exact o.no
   rename_i lD lp
   obtain⟨e,o⟩:=o.fG
   have lv:d<cx.n:=by rw[O.n];exact cG lt
   obtain⟨m,lk⟩:=la.ext ld
   obtain⟨v,lA,lB⟩:=Aw O lk lr lp (e▸lu)
   refine⟨by rw[lk.size];exact lv,v,lA w' (Ext.refl w'),?_⟩
   rw[af]
   exact SH O lr lu li c U o _ _ ⟨m,lk.put lv lB⟩
  ·rename_i a b c2 c3 c4 c5 c6 h'
   split at Z
   case h_2=>exact Z.no
   rename_i C lf lg lj lC
   refine QW (Q:=Q) O a b c2 c3 c4 c5 c6 lf lg (Nat.eq_of_beq_eq_true lj) lC ?_
   refine gC (zq O r) 5000 (i:=fun w Y=>wpQuiet cx.P l.toArray (Ext w) (fun Y=>∀w',Ext w w'->∃v2 v3 v4 v5 ll lm,tR cx.P (dB Q) C Y w' v2 v3 v4 v5 ll lm) (bx l.toArray b) Y) ?_ lh Z
   intro st' h' lc U o T w la
   refine gC (nn O r) 5000 (i:=fun w Y=>∀w',Ext w w'->∃v2 v3 v4 v5 ll lm,tR cx.P (dB Q) C Y w' v2 v3 v4 v5 ll lm) ?_ U o T w la
   intro st' h' lc U o T w la w' ld
   split at o
   case h_2=>exact o.no
   rename_i st2 lp
   obtain⟨m,lk⟩:=la.ext ld
   obtain⟨v2,v3,v4,v5,ll,lm,F⟩:=Wk O lk lp
   exact⟨v2,v3,v4,v5,ll,lm,F (li _ _ _ U o)⟩
  ·rename_i a b c d h'
   split at Z
   case h_2=>exact Z.no
   rename_i lf lg lj
   refine PX (Q:=Q) a b c d (by rw[O.P];exact lf) lg (Nat.eq_of_beq_eq_true lj) ?_
   refine gC (zq O r) 5000 (i:=fun w Y=>wpQuiet cx.P l.toArray (Ext w) (fun Y=>∀w',Ext w w'->wpList cx.P l.toArray (tg cx l.toArray d Q) (bx l.toArray c) Y w') (bx l.toArray b) Y) ?_ lh Z
   intro st' h' lc U o T w la
   refine gC (nn O r) 5000 (i:=fun w Y=>∀w',Ext w w'->wpList cx.P l.toArray (tg cx l.toArray d Q) (bx l.toArray c) Y w') ?_ U o T w la
   intro st' h' lc U o T w la w' ld
   refine gC (su O r) 5000 (i:=tg cx l.toArray d Q) ?_ U o T w' (la.ext ld)
   intro st' h' lc U o T w la
   refine⟨rfl,?_⟩
   refine gC (nn O r) 5000 (i:=fun w a=>∀w',Ext w w'->dB Q .normal a w') ?_ U o T w la
   intro st' h' lc U o T w la w' ld
   exact⟨rfl,li _ _ _ U o T w' (la.ext ld)⟩
  ·rename_i b c h'
   split at Z
   case h_2=>exact Z.no
   rename_i lf lg lj
   refine M5 (Q:=Q) b c (by rw[O.P];exact lf) lg (Nat.eq_of_beq_eq_true lj) ?_
   refine gC (nn O r) 5000 (i:=fun w Y=>∀w',Ext w w'->jH cx.P l.toArray (dB Q) (Ext w) (bx l.toArray c) Y w') ?_ lh Z
   intro st' h' lc U o T w la w' ld
   exact OR O li c U o T w' (la.ext ld) ld
  ·rename_i lE h'
   exact M7 O li lh Z
  ·split at Z
   ·rename_i lf lg
    refine Cs O lf lg ?_
    refine gC (nn O r) 5000 (i:=fun w a=>∀w',Ext w w'->Q .normal a w') ?_ lh Z
    intro st' h' lc U o T w la w' ld
    exact li _ _ _ U o T w' (la.ext ld)
   ·exact Z.no
theorem Dh{ll:List (aL P G)}{bM:Nat}(lm:br (cy P G bM ll) cx){r:R}:∀(c:Code) {st:ae} {h:bc P G R} {Z:List cq} {K:mR P G R} {Q:cX},
  (∀e st' h' lf,cH lf->bz (K e st' h' lf) r->N cx Q e st')->cH Z->bz (run ll (cy P G bM ll) c st h Z K) r->W cx Q c st:=by
 intro c
 induction c with
 |skip=>intro st h Z K Q O U o;exact dc (O _ _ _ _ U o)
 |exit id=>intro st h Z K Q O U o;exact jR (O _ _ _ _ U o)
 |ret=>intro st h Z K Q O U o;exact ep (O _ _ _ _ U o)
 |block id c ln=>
  intro st h Z K Q O U o
  refine fF (ln ?_ U o)
  intro e st' h' lf lc Y
  split at Y
  ·exact iO (O _ _ _ _ lc Y)
  ·exact fl (O _ _ _ _ lc Y)
  ·rename_i i
   split at Y
   ·rename_i lg
    have lg:=Nat.eq_of_beq_eq_true lg
    subst lg
    exact kB (O _ _ _ _ lc Y)
   ·rename_i lg
    exact Oq lg (O _ _ _ _ lc Y)
  ·exact Y.no
 |seq x y lh li=>
  intro st h Z K Q O U o
  unfold run at o
  split at o
  ·rename_i lk S lr ly lz
   obtain⟨lq,la⟩:=o.gj
   refine my (α:=fP lk) (fun z=>lr z=some r) (S st) (fun z lj=>li O cH.nil (lq z lj)) fun lt=>?_
   refine lh (Li (fun st' Y=>?_) O) U la
   obtain⟨z,lo,lp⟩:=CF Y
   exact(lt z lp).norm lo
  ·refine ay (lh ?_ U o)
   intro e st' h' lf lc Y
   cases e with
   |normal=>exact ax (li O lc Y)
   |_=>exact O _ st' h' lf lc Y
 |cond c x y lh li=>
  intro st h Z K Q O U o
  unfold run at o
  split at o
  ·rename_i b ld
   split at o
   ·obtain⟨e,la⟩:=o.jM
    exact da ld (fun _=>lh O U la) fun h=>by rw[e]at h;cases h
   ·obtain⟨e,la⟩:=o.jM
    exact da ld (fun h=>by rw[e]at h;cases h) fun _=>li O U la
   ·rcases o.ite with ⟨e,la⟩|⟨e,la⟩
    ·exact da ld (fun _=>lh O U la) fun h=>by rw[e]at h;cases h
    ·exact da ld (fun h=>by rw[e]at h;cases h) fun _=>li O U la
  ·exact o.no
 |loop c ln=>
  intro st h Z K Q O U o
  unfold run at o
  split at o
  ·rename_i lk S F k lq
   split at o
   ·rename_i z0 lA
    obtain⟨lu,h1,la⟩:=o.iK
    obtain⟨e,lv⟩:=la.eqs
    refine W.norm (jN (fun n z=>F n z=some r) (S st) ?_ lv.den) e
    intro n z lj
    cases n with
    |zero=>rw[lu]at lj;cases lj
    |succ n=>
     refine ln (Li (fun st' Y=>?_) O) cH.nil (h1 n z lj)
     obtain⟨lw,lo,lp⟩:=CF Y
     exact(jc (F:=fun n z=>F n z=some r) lw (Nat.lt_succ_self n) lp).norm lo
   ·exact o.no
  ·exact o.no
 |region id ops lB=>
  intro st h Z K Q O U o
  unfold run at o
  split at o
  ·rename_i lC h'
   split at o
   ·rename_i c ld
    rintro T w ⟨m,lx⟩
    exact FC lm O U o T w ⟨m,lx.freeze (aX ld)⟩
   ·exact o.no
  ·split at o
   ·rename_i st' lk
    exact W.norm (FC lm O U o) lk
   ·exact o.no
  ·exact FC lm O U o
 |_=>intro st h Z K Q O U o;exact o.no
def Gl{α:Type}(b:Bool)(aa:Option α):Option α:=bif b then aa else none
theorem Rp{α:Type}{b:Bool}{aa:Option α}{y:α}(h:Gl b aa=some y):b=true/\aa=some y:=by
 cases b with
 |true=>exact⟨rfl,h⟩
 |false=>cases h
/-! Contracts. -/
def Ur(o:Program)(O:List ResultVar)(dZ:List ag):mR P G (eE dZ):=fun e st _ _=>
 match e with
 |.ret=>match kh o (vC st) O with
  |some ar=>.ret (ga dZ ar)
  |none=>.ret none
 |.normal=>match kh o (vC st) O with
  |some ar=>.ret (ga dZ ar)
  |none=>.ret none
 |_=>.ret none
def qe(P:Program)(G:World->Prop)(n:Nat)(o:List (aL P G))(c:Code)(O:List ResultVar)(F:aZ)(h:eE F.gu->bc P G (eE F.dZ))(x:eE F.gu):bp (eE F.dZ):=
 run o (cy P G n o) c ⟨qb 0 (eV F.gu x),[],[]⟩ (h x) [] (Ur P O F.dZ)
theorem kA{F:aZ}{o ar:List aj}(h:F.ba.rel o ar):∃x y,o=eV F.gu x/\ar=eV F.dZ y/\F.fn x=some y:=by
 have h:(match ga F.gu o,ga F.dZ ar with
  |some x,some y=>F.fn x=some y
  |_,_=>False):=h
 split at h
 ·rename_i x y O U
  exact⟨x,y,sG _ _ _ O,sG _ _ _ U,h⟩
 ·exact h.elim
theorem bt{P:Program}{G:World->Prop}(Z:∀w w',Frame w w' (fun _=>False)->G w->G w'){f:FuncId}{fn:Func}{c:Code}(la:P.funcs[f]? =some fn)(lc:(fn.name== "runtime.NumGoroutine")=false)(ld:fn.body=some c)
  {n:Nat}(Y:fn.ntmps=n)(F:aZ)(af:Nat.ble F.gu.length n=true)(O:List (aL P G))(h:eE F.gu->bc P G (eE F.dZ))
  (lf:(fun x=>((qe P G n O c fn.results.toList F h x).fi,(qe P G n O c fn.results.toList F h x).den))=fun x=>((qe P G n O c fn.results.toList F h x).fm,F.fn x)):aY P G f F.ba:=by
 refine zi Z la lc ld ?_ ?_
 ·intro lg ar h
  obtain⟨x,y,rfl,rfl,_⟩:=kA h
  refine⟨by rw[nV,Y];exact Nat.le_of_ble_eq_true af,nV _ _,fun lh u li=>?_⟩
  exact List.all_eq_true.1 lh _ (uZ _ _ u li)
 ·intro bC M lg ar lj h
  obtain⟨x,y,rfl,rfl,lk⟩:=kA h
  have ll:br (cy P G n O) ⟨P,fn.ntmps,bC,M,fun _=>False,fun _=>undef⟩:=kb rfl Y lj
  have W:=congrFun lf x
  simp only[Prod.mk.injEq]at W
  refine Dh ll c (r:=y) ?_ cH.nil ⟨bp.iG _ W.1,W.2.trans lk⟩
  intro e st' h' lo _ o
  have key:∀U,(U=.ret\/U=.normal)->bz (match kh P (vC st') fn.results.toList with
    |some ar=>bp.ret (ga F.dZ ar)
    |none=>.ret none) y->N ⟨P,fn.ntmps,bC,M,fun _=>False,fun _=>undef⟩ (wX P fn M bC (eV F.dZ y)) U st':=by
   intro U lm o
   split at o
   ·rename_i ar ln
    exact mq lm (by rw[ln,sG _ _ _ o.den])
   ·exact o.no
  cases e with
  |ret=>exact key _ (.inl rfl) o
  |normal=>exact key _ (.inr rfl) o
  |_=>exact o.no
theorem Xi{P:Program}{G:World->Prop}(ld:∀w w',Frame w w' (fun _=>False)->G w->G w'){f:FuncId}{fn:Func}{c:Code}(lf:P.funcs[f]? =some fn)(lg:(fn.name== "runtime.NumGoroutine")=false)(lh:fn.body=some c)
  {n:Nat}(la:fn.ntmps=n)(F:aZ)(af:Nat.ble F.gu.length n=true)(O:List (aL P G))(Y:List ag)(U:eE Y->eE F.gu)(lc:eE Y->Option (eE F.dZ))(li:∀z y,F.fn z=some y->∃x,U x=z/\lc x=some y)(h:eE Y->bc P G (eE F.dZ))
  (lj:(fun x=>((qe P G n O c fn.results.toList F (fun _=>h x) (U x)).fi,(qe P G n O c fn.results.toList F (fun _=>h x) (U x)).den))=fun x=>((qe P G n O c fn.results.toList F (fun _=>h x) (U x)).fm,lc x)):aY P G f F.ba:=by
 refine zi ld lf lg lh ?_ ?_
 ·intro lk ar h
  obtain⟨x,y,rfl,rfl,_⟩:=kA h
  refine⟨by rw[nV,la];exact Nat.le_of_ble_eq_true af,nV _ _,fun ll u lm=>?_⟩
  exact List.all_eq_true.1 ll _ (uZ _ _ u lm)
 ·intro bC M lk ar ln h1
  obtain⟨z,y,rfl,rfl,lo⟩:=kA h1
  obtain⟨x,rfl,lp⟩:=li z y lo
  have lq:br (cy P G n O) ⟨P,fn.ntmps,bC,M,fun _=>False,fun _=>undef⟩:=kb rfl la ln
  have Z:=congrFun lj x
  simp only[Prod.mk.injEq]at Z
  refine Dh lq c (r:=y) ?_ cH.nil ⟨bp.iG _ Z.1,Z.2.trans lp⟩
  intro e st' h' lu _ o
  have key:∀W,(W=.ret\/W=.normal)->bz (match kh P (vC st') fn.results.toList with
    |some ar=>bp.ret (ga F.dZ ar)
    |none=>.ret none) y->N ⟨P,fn.ntmps,bC,M,fun _=>False,fun _=>undef⟩ (wX P fn M bC (eV F.dZ y)) W st':=by
   intro W lr o
   split at o
   ·rename_i ar lt
    exact mq lr (by rw[lt,sG _ _ _ o.den])
   ·exact o.no
  cases e with
  |ret=>exact key _ (.inl rfl) o
  |normal=>exact key _ (.inr rfl) o
  |_=>exact o.no
theorem MN{P:Program}{G:World->Prop}{f:FuncId}{fn:Func}{c:Code}(O:P.funcs[f]? =some fn)(U:(fn.name== "runtime.NumGoroutine")=false)(W:fn.body=some c)(F:aZ)(h:∀x,F.fn x=none):aY P G f F.ba where
 enters:=enters_of O U W
 shape:=fun Y ar o=>by
  obtain⟨x,y,_,_,e⟩:=kA o
  rw[h]at e
  cases e
 calls:=fun w M vs Y ar _ _ o=>by
  obtain⟨x,y,_,_,e⟩:=kA o
  rw[h]at e
  cases e
/-! Contracts of functions that change what their caller owns. -/
def pG:Nat->List ak->List (Nat×ak)
 |_,[]=>[]
 |k,s::l=>(k,s)::pG (k+1) l
def BN{α β:Type}(o:Program)(O:List ResultVar)(F:cJ α β)(U:ae->Option β)(W Y:List Nat)(x:α)(st:ae):bp β:=
 match o2 o st O,st.norm [] W Y with
 |some ar,some s=>match U ⟨pG 0 ar,s.ad,s.rw⟩with
  |some y=>.eqs (some ⟨pG 0 ar,s.ad,s.rw⟩) (some ⟨pG 0 (F.ar x y),(F.be x y).ad,(F.be x y).rw⟩) (.eqs (some s) (some (F.be x y)) (.ret (some y)))
  |none=>.ret none
 |_,_=>.ret none
def OA{α β:Type}(o:Program)(O:List ResultVar)(F:cJ α β)(U:ae->Option β)(W Y:List Nat)(x:α):mR P G β:=fun e st h _=>
 let t:=match sl h st with
  |some st=>BN o O F U W Y x st
  |none=>.ret none
 match e with
 |.ret=>t
 |.normal=>t
 |_=>.ret none
theorem I6:∀{k:Nat} {a b:List ak},pG k a=pG k b->a=b
 |_,[],[],_=>rfl
 |_,[],_::_,h=>by cases h
 |_,_::_,[],h=>by cases h
 |k,x::a,y::b,h=>by
  simp only[pG,List.cons.injEq,Prod.mk.injEq,true_and]at h
  rw[h.1,I6 h.2]
def DG(P:Program)(G:World->Prop){α β:Type}(o:List (aL P G))(c:Code)(O:List ResultVar)(F:cJ α β)(U:ae->Option β)(W Y:List Nat)(h:α->bc P G β)(x:α):bp β:=
 run o (cy P G F.n o) c (F.S x) (h x) [] (OA P O F U W Y x)
theorem fp{P:Program}{G:World->Prop}{f:FuncId}{fn:Func}{c:Code}{α β:Type}(lg:P.funcs[f]? =some fn)(lh:(fn.name== "runtime.NumGoroutine")=false)(li:fn.body=some c)
  (F:cJ α β)(lj:fn.ntmps=F.n)(W:List (aL P G))(ld:α->Option β)(lk:∀x y,F.rel x y->ld x=some y)(Y:ae->Option β)(O U:List Nat)(h:α->bc P G β)
  (ll:(fun x=>((DG P G W c fn.results.toList F Y O U h x).fi,(DG P G W c fn.results.toList F Y O U h x).den))=fun x=>((DG P G W c fn.results.toList F Y O U h x).fm,ld x)):cF P G f F:=by
 refine oL lg lh li lj ?_
 intro cx lf lm ln x y lo
 have lp:br (cy P G F.n W) cx:=kb lf lm ln
 have lc:=congrFun ll x
 simp only[Prod.mk.injEq]at lc
 refine Dh lp c (r:=y) ?_ cH.nil ⟨bp.iG _ lc.1,lc.2.trans (lk x y lo)⟩
 intro e st' h' lz _ o
 have key:∀Z,(Z=.ret\/Z=.normal)->bz (match sl h' st' with
   |some st'=>BN P fn.results.toList F Y O U x st'
   |none=>.ret none) y->N cx (EB cx.P fn cx (F.be x y) (F.ar x y)) Z st':=by
  intro Z lq o
  split at o
  ·rename_i st2 lr
   refine HB lr ?_
   unfold BN at o
   split at o
   ·rename_i ar s lt lu
    split at o
    ·obtain⟨la,lv⟩:=o.eqs
     obtain⟨lw,lx⟩:=lv.eqs
     have ly:=Option.some.inj lx.den
     subst ly
     have la:=Option.some.inj la
     simp only[ae.mk.injEq]at la
     exact fT lf O U lq (by rw[lt,I6 la.1]) (by rw[lu,Option.some.inj lw])
    ·exact o.no
   ·exact o.no
  ·exact o.no
 cases e with
 |ret=>exact key _ (.inl rfl) o
 |normal=>exact key _ (.inr rfl) o
 |_=>exact o.no
theorem Kx{F:aZ}{fn:Func}{n:Nat}(O:fn.ntmps=n)(af:Nat.ble F.gu.length n=true):∀o ar,F.ba.rel o ar->o.length<=fn.ntmps/\ar.length=F.ba.io/\(F.ba.flat=true->∀u∈ar,u.t.flat=true):=by
 intro o ar h
 obtain⟨x,y,rfl,rfl,_⟩:=kA h
 exact⟨by rw[nV,O];exact Nat.le_of_ble_eq_true af,nV _ _,fun U u W=>List.all_eq_true.1 U _ (uZ _ _ u W)⟩
theorem Xe{P:Program}{G:World->Prop}{f:Nat}{C:jT}(h:aY P G f C)(F:aZ)(O:∀x y,F.fn x=some y->C.rel (eV F.gu x) (eV F.dZ y)):aY P G f F.ba where
 enters:=h.enters
 shape:=fun U ar o=>by
  obtain⟨x,y,rfl,rfl,_⟩:=kA o
  exact⟨nV _ _,fun W u Y=>List.all_eq_true.1 W _ (uZ _ _ u Y)⟩
 calls:=fun w M vs U ar Z la o=>by
  obtain⟨x,y,rfl,rfl,e⟩:=kA o
  exact h.calls w M vs _ _ Z la (O x y e)
theorem Lb{P:Program}{G:World->Prop}{f:FuncId}{fn:Func}{c:Code}{α β:Type}(o:P.funcs[f]? =some fn)(O:(fn.name== "runtime.NumGoroutine")=false)(U:fn.body=some c)(F:cJ α β)(h:∀x y,F.rel x y->False):cF P G f F where
 enters:=enters_of o O U
 calls:=fun _ _ _ _ x y W=>(h x y W).elim
def J2{o:Type}(f:o):Unit->o:=fun _=>f
def cT{o O U:Type}(f:o->O->U):o×O->U:=fun z=>f z.1 z.2
def eC{o O U:Type}(g:o×O->U):o->O->U:=fun W Y=>g (W,Y)
def pd{o O U W:Type}(f:o->O->U->W):o×O×U->W:=fun z=>f z.1 z.2.1 z.2.2
def nw{o O U W:Type}(g:o×O×U->W):o->O->U->W:=fun Y Z la=>g (Y,Z,la)
def zG{o O U W Y:Type}(f:o->O->U->W->Y):o×O×U×W->Y:=fun z=>f z.1 z.2.1 z.2.2.1 z.2.2.2
def yF{o O U W Y:Type}(g:o×O×U×W->Y):o->O->U->W->Y:=fun Z la lc ld=>g (Z,la,lc,ld)
def EJ{o O U W Y Z:Type}(f:o->O->U->W->Y->Z):o×O×U×W×Y->Z:=fun z=>f z.1 z.2.1 z.2.2.1 z.2.2.2.1 z.2.2.2.2
def Ly{o O U W Y Z:Type}(g:o×O×U×W×Y->Z):o->O->U->W->Y->Z:=fun la lc ld lf lg=>g (la,lc,ld,lf,lg)
def Tx{o O U W Y Z la:Type}(f:o->O->U->W->Y->Z->la):o×O×U×W×Y×Z->la:=fun z=>f z.1 z.2.1 z.2.2.1 z.2.2.2.1 z.2.2.2.2.1 z.2.2.2.2.2
def Ak{o O U W Y Z la:Type}(g:o×O×U×W×Y×Z->la):o->O->U->W->Y->Z->la:=fun lc ld lf lg lh li=>g (lc,ld,lf,lg,lh,li)
def Us{o O U W Y Z la lc ld lf lg lh:Type}(f:o->O->U->W->Y->Z->la->lc->ld->lf->lg->lh):o×O×U×W×Y×Z×la×lc×ld×lf×lg->lh:=fun z=>f z.1 z.2.1 z.2.2.1 z.2.2.2.1 z.2.2.2.2.1 z.2.2.2.2.2.1 z.2.2.2.2.2.2.1 z.2.2.2.2.2.2.2.1 z.2.2.2.2.2.2.2.2.1 z.2.2.2.2.2.2.2.2.2.1 z.2.2.2.2.2.2.2.2.2.2
def vN{o O U W Y Z la lc ld lf lg lh li:Type}(f:o->O->U->W->Y->Z->la->lc->ld->lf->lg->lh->li):o×O×U×W×Y×Z×la×lc×ld×lf×lg×lh->li:=fun z=>f z.1 z.2.1 z.2.2.1 z.2.2.2.1 z.2.2.2.2.1 z.2.2.2.2.2.1 z.2.2.2.2.2.2.1 z.2.2.2.2.2.2.2.1 z.2.2.2.2.2.2.2.2.1 z.2.2.2.2.2.2.2.2.2.1 z.2.2.2.2.2.2.2.2.2.2.1 z.2.2.2.2.2.2.2.2.2.2.2
def Cq{o O U W Y Z la lc ld lf lg lh li:Type}(g:o×O×U×W×Y×Z×la×lc×ld×lf×lg×lh->li):o->O->U->W->Y->Z->la->lc->ld->lf->lg->lh->li:=fun lj lk ll lm ln lo lp lq lr lt lu lv=>g (lj,lk,ll,lm,ln,lo,lp,lq,lr,lt,lu,lv)
def IX{o O U W Y Z la lc ld lf lg lh li lj lk:Type}(f:o->O->U->W->Y->Z->la->lc->ld->lf->lg->lh->li->lj->lk):o×O×U×W×Y×Z×la×lc×ld×lf×lg×lh×li×lj->lk:=fun z=>f z.1 z.2.1 z.2.2.1 z.2.2.2.1 z.2.2.2.2.1 z.2.2.2.2.2.1 z.2.2.2.2.2.2.1 z.2.2.2.2.2.2.2.1 z.2.2.2.2.2.2.2.2.1 z.2.2.2.2.2.2.2.2.2.1 z.2.2.2.2.2.2.2.2.2.2.1 z.2.2.2.2.2.2.2.2.2.2.2.1 z.2.2.2.2.2.2.2.2.2.2.2.2.1 z.2.2.2.2.2.2.2.2.2.2.2.2.2
def Nv{o O U W Y Z la lc ld lf lg lh li lj lk ll:Type}(f:o->O->U->W->Y->Z->la->lc->ld->lf->lg->lh->li->lj->lk->ll):o×O×U×W×Y×Z×la×lc×ld×lf×lg×lh×li×lj×lk->ll:=fun z=>f z.1 z.2.1 z.2.2.1 z.2.2.2.1 z.2.2.2.2.1 z.2.2.2.2.2.1 z.2.2.2.2.2.2.1 z.2.2.2.2.2.2.2.1 z.2.2.2.2.2.2.2.2.1 z.2.2.2.2.2.2.2.2.2.1 z.2.2.2.2.2.2.2.2.2.2.1 z.2.2.2.2.2.2.2.2.2.2.2.1 z.2.2.2.2.2.2.2.2.2.2.2.2.1 z.2.2.2.2.2.2.2.2.2.2.2.2.2.1 z.2.2.2.2.2.2.2.2.2.2.2.2.2.2
def OV{o O U W Y Z la lc ld lf lg lh li lj lk ll:Type}(g:o×O×U×W×Y×Z×la×lc×ld×lf×lg×lh×li×lj×lk->ll):o->O->U->W->Y->Z->la->lc->ld->lf->lg->lh->li->lj->lk->ll:=fun lm ln lo lp lq lr lt lu lv lw lx ly lz lA lB=>g (lm,ln,lo,lp,lq,lr,lt,lu,lv,lw,lx,ly,lz,lA,lB)
def Xh{o O U W Y Z la lc ld lf lg lh li lj lk ll lm ln lo lp:Type}(f:o->O->U->W->Y->Z->la->lc->ld->lf->lg->lh->li->lj->lk->ll->lm->ln->lo->lp):o×O×U×W×Y×Z×la×lc×ld×lf×lg×lh×li×lj×lk×ll×lm×ln×lo->lp:=fun z=>f z.1 z.2.1 z.2.2.1 z.2.2.2.1 z.2.2.2.2.1 z.2.2.2.2.2.1 z.2.2.2.2.2.2.1 z.2.2.2.2.2.2.2.1 z.2.2.2.2.2.2.2.2.1 z.2.2.2.2.2.2.2.2.2.1 z.2.2.2.2.2.2.2.2.2.2.1 z.2.2.2.2.2.2.2.2.2.2.2.1 z.2.2.2.2.2.2.2.2.2.2.2.2.1 z.2.2.2.2.2.2.2.2.2.2.2.2.2.1 z.2.2.2.2.2.2.2.2.2.2.2.2.2.2.1 z.2.2.2.2.2.2.2.2.2.2.2.2.2.2.2.1 z.2.2.2.2.2.2.2.2.2.2.2.2.2.2.2.2.1 z.2.2.2.2.2.2.2.2.2.2.2.2.2.2.2.2.2.1 z.2.2.2.2.2.2.2.2.2.2.2.2.2.2.2.2.2.2
def P6{o O U W Y Z la lc ld lf lg lh li lj lk ll lm ln lo lp:Type}(g:o×O×U×W×Y×Z×la×lc×ld×lf×lg×lh×li×lj×lk×ll×lm×ln×lo->lp):o->O->U->W->Y->Z->la->lc->ld->lf->lg->lh->li->lj->lk->ll->lm->ln->lo->lp:=fun lq lr lt lu lv lw lx ly lz lA lB lC lD lE lF lG lH lI lJ=>g (lq,lr,lt,lu,lv,lw,lx,ly,lz,lA,lB,lC,lD,lE,lF,lG,lH,lI,lJ)
end Go.Ev
namespace Go.Ev
open Go
set_option linter.unusedVariables false
def De(o:List UInt8)(go1:(List UInt8)->Option (List UInt8))(t1:Bool):Option (List UInt8):=
 if t1 then
  (
   Option.bind (dK o (0:Int) (ai ((List.length o:Int)-(1:Int)))) fun O=>
   go1 O
  )
 else
  some (o)
def PJ(c1:Int)(go1:(List UInt8)->Option (List UInt8))(o:List UInt8):Option (List UInt8):=
 if decide ((0:Int)<(List.length o:Int))then
  (
   Option.bind (fH o (ai ((List.length o:Int)-(1:Int)))) fun O=>
   De o go1 (O==c1)
  )
 else
  De o go1 false
def Es(c1:Int):Nat->(List UInt8)->Option (List UInt8)
 |0,_=>none
 |n+1,o=>PJ c1 (Es c1 n) o
def Hw(k:Nat)(o:List UInt8)(c1:Int):Option (List UInt8):=
 Es c1 k o
def CT(o:List UInt8)(go1:(List UInt8)->Option (List UInt8))(t1:Bool):Option (List UInt8):=
 if t1 then
  (
   Option.bind (dK o (1:Int) (o.length:Int)) fun O=>
   go1 O
  )
 else
  some (o)
def OY(c1:Int)(go1:(List UInt8)->Option (List UInt8))(o:List UInt8):Option (List UInt8):=
 if decide ((0:Int)<(List.length o:Int))then
  (
   Option.bind (fH o (0:Int)) fun O=>
   CT o go1 (O==c1)
  )
 else
  CT o go1 false
def El(c1:Int):Nat->(List UInt8)->Option (List UInt8)
 |0,_=>none
 |n+1,o=>OY c1 (El c1 n) o
def Kt(k:Nat)(o:List UInt8)(c1:Int):Option (List UInt8):=
 El c1 k o
def VO(U:List UInt8)(go1:Int->(List (Bool))->Option (List (Bool)×Bool))(i1:Int)(O:List (Bool)):Option (List (Bool)×Bool):=
 if decide (i1<(List.length U:Int))then
  (
   Option.bind (fH U i1) fun o=>
   if decide ((128:Int)<=o)then
    some (O,false)
   else
    (
     Option.bind (aG (0<=o/\o<(256:Int))) fun _=>
     Option.bind (ao O o) fun W=>
     go1 (ai (i1+(1:Int))) (List.set O (o).toNat true)
    )
  )
 else
  some (O,true)
def BZ(o:List UInt8):Nat->Int->(List (Bool))->Option (List (Bool)×Bool)
 |0,_,_=>none
 |n+1,i1,O=>VO o (BZ o n) i1 O
def rR(k:Nat)(o:List UInt8):Option (List (Bool)×Bool):=
 BZ o k (0:Int) (List.replicate 256 false)
def pZ(k:Nat)(o:List (Bool))(c1:Int):Option Bool:=
 Option.bind (ao o c1) fun O=>
 some (O)
def uA(o:List UInt8):Option (List UInt8):=
 some (o)
def DM(k:Nat)(O:List (Bool))(go1:(List UInt8)->Option (List UInt8))(o:List UInt8):Option (List UInt8):=
 if decide ((0:Int)<(List.length o:Int))then
  (
   Option.bind (fH o (ai ((List.length o:Int)-(1:Int)))) fun U=>
   Option.bind (pZ k O U) fun v1=>
   if !v1 then
    uA o
   else
    (
     Option.bind (dK o (0:Int) (ai ((List.length o:Int)-(1:Int)))) fun W=>
     go1 W
    )
  )
 else
  uA o
def oN(k:Nat)(o:List (Bool)):Nat->(List UInt8)->Option (List UInt8)
 |0,_=>none
 |n+1,O=>DM k o (oN k o n) O
def wO(k:Nat)(o:List UInt8)(O:List (Bool)):Option (List UInt8):=
 oN k O k o
def sS(o:List UInt8):Option (List UInt8):=
 some (o)
def AI(k:Nat)(O:List (Bool))(go1:(List UInt8)->Option (List UInt8))(o:List UInt8):Option (List UInt8):=
 if decide ((0:Int)<(List.length o:Int))then
  (
   Option.bind (fH o (0:Int)) fun U=>
   Option.bind (pZ k O U) fun v1=>
   if !v1 then
    sS o
   else
    (
     Option.bind (dK o (1:Int) (o.length:Int)) fun W=>
     go1 W
    )
  )
 else
  sS o
def pX(k:Nat)(o:List (Bool)):Nat->(List UInt8)->Option (List UInt8)
 |0,_=>none
 |n+1,O=>AI k o (pX k o n) O
def yE(k:Nat)(o:List UInt8)(O:List (Bool)):Option (List UInt8):=
 pX k O k o
def GM(k:Nat)(o:List UInt8)(O:List UInt8):Option (List UInt8):=
 none
def F6(k:Nat)(o:List UInt8)(O:List UInt8):Option (List UInt8):=
 none
def tj(k:Nat)(o:List UInt8)(O:List UInt8)(t2:Bool):Option (List UInt8):=
 if t2 then
  (
   Option.bind (fH o (0:Int)) fun U=>
   Option.bind (Hw k O U) fun v1=>
   Option.bind (fH o (0:Int)) fun W=>
   Option.bind (Kt k v1 W) fun v2=>
   some (v2)
  )
 else
  (
   Option.bind (rR k o) fun v3=>
   if v3.2 then
    (
     Option.bind (wO k O v3.1) fun v4=>
     Option.bind (yE k v4 v3.1) fun v5=>
     some (v5)
    )
   else
    (
     Option.bind (GM k O o) fun Y=>
     Option.bind (F6 k Y o) fun Z=>
     some (Z)
    )
  )
def B8(k:Nat)(O:List UInt8)(o:List UInt8)(t1:Bool):Option (List UInt8):=
 if t1 then
  some (O)
 else
  (
   if(List.length o:Int)==(1:Int)then
    (
     Option.bind (fH o (0:Int)) fun U=>
     tj k o O (decide (U<(128:Int)))
    )
   else
    tj k o O false
  )
def oM(k:Nat)(o:List UInt8)(O:List UInt8):Option (List UInt8):=
 B8 k o O ((o==([]:List UInt8))||(O==([]:List UInt8)))
def yX(t2:Bool):Option Bool:=
 some (t2)
def D6(k:Nat)(o:List UInt8)(t1:Bool):Option Bool:=
 if t1 then
  (
   Option.bind (oM k o ([97,98,99,100,101,102,103,104,105,106,107,108,109,110,111,112,113,114,115,116,117,118,119,120,121,122]:List UInt8)) fun v1=>
   yX (v1==([]:List UInt8))
  )
 else
  yX false
def qE(k:Nat)(o:List UInt8):Option Bool:=
 D6 k o ((!(o==([]:List UInt8)))&&(decide ((List.length o:Int)<=(32:Int))))
def pF(t2:Bool):Option Bool:=
 if t2 then
  some (false)
 else
  some (true)
def sk(o:Int)(t1:Bool):Option Bool:=
 if t1 then
  some (true)
 else
  (
   if decide (o<(161:Int))then
    pF (decide (o<(161:Int)))
   else
    (
     if decide ((1114111:Int)<o)then
      pF (decide ((1114111:Int)<o))
     else
      (
       if o==(65533:Int)then
        pF (o==(65533:Int))
       else
        (
         Option.bind (aG (0<=(11:Int))) fun _=>
         pF ((Int.fdiv o (2^min ((11:Int)).toNat 32))==(27:Int))
        )
      )
    )
  )
def Bd(o:Int)(t4:Bool):Option Bool:=
 sk o t4
def CV(o:Int)(t3:Bool):Option Bool:=
 if t3 then
  sk o t3
 else
  Bd o (decide ((65:Int)<=o)&&(decide (o<=(90:Int))))
def qp(k:Nat)(o:Int):Option Bool:=
 CV o (decide ((97:Int)<=o)&&(decide (o<=(122:Int))))
def IM(t1:Bool):Option Bool:=
 some (t1)
def kJ(k:Nat)(o:aV)(O:Int)(U:Int):Option Bool:=
 Option.bind (aG (0<=(List.length o.1:Int))) fun _=>
 IM (((Int.fdiv (dN (BitVec.toNat (BitVec.ofInt 32 O|||BitVec.ofInt 32 U))) (2^min ((List.length o.1:Int)).toNat 32))==(0:Int))&&((dN (BitVec.toNat (BitVec.ofInt 32 O&&&BitVec.ofInt 32 U)))==(0:Int)))
def AO(go1:Int->bP->Option Int)(t3:Int)(m1:List bv)(o:List UInt8)(t4:Bool):Option Int:=
 if t4 then
  some ((7:Int))
 else
  go1 (ai (t3+(1:Int))) (cb (aD .str) m1 o true)
def rI(go2:Int->mI->Option Int)(t5:Int)(m2:List (Int×Bool))(o:ee)(t7:Bool):Option Int:=
 if t7 then
  some ((7:Int))
 else
  go2 (ai (t5+(1:Int))) (cb (aD (.int .i32)) m2 o.1 true)
def zL(k:Nat)(go2:Int->mI->Option Int)(t5:Int)(m2:List (Int×Bool))(o:ee)(O:aV)(t6:Bool):Option Int:=
 if t6 then
  rI go2 t5 m2 o true
 else
  (
   Option.bind (kJ k (O.1,O.2.1,()) o.2.1 o.2.2.1) fun v3=>
   rI go2 t5 m2 o (!v3)
  )
def B2(k:Nat)(o:aV)(go2:Int->mI->Option Int)(t5:Int)(m2:List (Int×Bool)):Option Int:=
 if decide (t5<(List.length o.2.1:Int))then
  (
   Option.bind (ao o.2.1 t5) fun O=>
   Option.bind (qp k O.1) fun v2=>
   zL k go2 t5 m2 O o ((!v2)||((bn (aD (.int .i32)) m2 O.1).getD false))
  )
 else
  some ((0:Int))
def k9(k:Nat)(o:aV):Nat->Int->mI->Option Int
 |0,_,_=>none
 |n+1,t5,m2=>B2 k o (k9 k o n) t5 m2
def EY(k:Nat)(o:aV)(go1:Int->bP->Option Int)(t3:Int)(m1:List bv):Option Int:=
 if decide (t3<(List.length o.1:Int))then
  (
   Option.bind (ao o.1 t3) fun O=>
   Option.bind (qE k O) fun v1=>
   AO go1 t3 m1 O ((!v1)||((bn (aD .str) m1 O).getD false))
  )
 else
  k9 k o k (0:Int) ([]:List (Int×Bool))
def pO(k:Nat)(o:aV):Nat->Int->bP->Option Int
 |0,_,_=>none
 |n+1,t3,m1=>EY k o (pO k o n) t3 m1
def Cp(k:Nat)(o:aV)(t2:Bool):Option Int:=
 if t2 then
  some ((7:Int))
 else
  pO k o k (0:Int) ([]:List bv)
def CA(k:Nat)(o:aV)(t1:Bool):Option Int:=
 Cp k o (t1||(decide ((128:Int)<(List.length o.2.1:Int))))
def fL(k:Nat)(o:aV):Option Int:=
 CA k o (decide ((24:Int)<(List.length o.1:Int))||(decide ((List.length o.2.1:Int)<(1:Int))))
def Jz(t3:Bool):Option Bool:=
 some (t3)
def vS(o:Int)(t2:Bool):Option Bool:=
 Jz (t2&&(o !=(45:Int)))
def Gy(o:Int)(t4:Bool):Option Bool:=
 vS o t4
def Lv(o:Int)(t1:Bool):Option Bool:=
 if t1 then
  Gy o (decide (o<(48:Int))||(decide ((57:Int)<o)))
 else
  vS o false
def xr(k:Nat)(o:Int):Option Bool:=
 Lv o (decide (o<(97:Int))||(decide ((122:Int)<o)))
def Ic(k:Nat)(O:List UInt8)(U:Bool)(go1:Nat->Option Int)(o:Nat):Option Int:=
 if decide (o<List.length O)then
  (
   Option.bind (xr k (im O o)) fun v1=>
   if v1==U then
    some ((o:Int))
   else
    go1 (o+kH O o)
  )
 else
  some ((-1:Int))
def sj(k:Nat)(o:List UInt8)(O:Bool):Nat->Nat->Option Int
 |0,_=>none
 |n+1,U=>Ic k o O (sj k o O n) U
def zY(k:Nat)(o:List UInt8)(f1:(Unit))(O:Bool):Option Int:=
 sj k o O k 0
def EQ(k:Nat)(o:List UInt8)(f1:(Unit)):Option Int:=
 Option.bind (zY k o f1 true) fun v1=>
 some (v1)
def Dg(k:Nat)(o:List UInt8)(f1:(Unit)):Option Bool:=
 Option.bind (EQ k o f1) fun v1=>
 some (decide ((0:Int)<=v1))
def AC(t2:Bool):Option Bool:=
 some (t2)
def GA(k:Nat)(o:List UInt8)(t1:Bool):Option Bool:=
 if t1 then
  (
   Option.bind (Dg k o (())) fun v1=>
   AC (!v1)
  )
 else
  AC false
def vZ(k:Nat)(o:List UInt8):Option Bool:=
 GA k o ((!(o==([]:List UInt8)))&&(decide ((List.length o:Int)<=(32:Int))))
def pW(go1:Int->ri->Option Bool)(t4:Int)(m1:List (List UInt8×(Unit)))(o:iW)(t6:Bool):Option Bool:=
 if t6 then
  some (false)
 else
  go1 (ai (t4+(1:Int))) (cb (aD .str) m1 o.1 (()))
def sd(go1:Int->ri->Option Bool)(t4:Int)(m1:List (List UInt8×(Unit)))(o:iW)(t7:Bool):Option Bool:=
 pW go1 t4 m1 o t7
def ML(go1:Int->ri->Option Bool)(t4:Int)(m1:List (List UInt8×(Unit)))(o:iW)(t8:Bool):Option Bool:=
 sd go1 t4 m1 o t8
def wC(go1:Int->ri->Option Bool)(t4:Int)(m1:List (List UInt8×(Unit)))(o:iW)(t5:Bool):Option Bool:=
 if t5 then
  pW go1 t4 m1 o true
 else
  (
   if decide ((0:Int)<t4)then
    ML go1 t4 m1 o (decide (o.2.1<(0:Int))||(decide (t4<=o.2.1)))
   else
    sd go1 t4 m1 o false
  )
def IK(k:Nat)(l1:List dY)(go1:Int->ri->Option Bool)(t4:Int)(m1:List (List UInt8×(Unit))):Option Bool:=
 if decide (t4<(List.length l1:Int))then
  (
   Option.bind (ao l1 t4) fun o=>
   if(bn (aD .str) m1 o.1).isSome then
    wC go1 t4 m1 o true
   else
    (
     Option.bind (vZ k o.1) fun v1=>
     wC go1 t4 m1 o (!v1)
    )
  )
 else
  some (true)
def nG(k:Nat)(l1:List dY):Nat->Int->ri->Option Bool
 |0,_,_=>none
 |n+1,t4,m1=>IK k l1 (nG k l1 n) t4 m1
def rL(k:Nat)(l1:List dY)(t3:Bool):Option Bool:=
 if t3 then
  some (false)
 else
  nG k l1 k (0:Int) ([]:List (List UInt8×(Unit)))
def r9(k:Nat)(l1:List dY)(t2:Bool):Option Bool:=
 if t2 then
  rL k l1 true
 else
  (
   Option.bind (ao l1 (0:Int)) fun o=>
   rL k l1 (decide ((0:Int)<(List.length o.2.2.1:Int)))
  )
def wN(k:Nat)(l1:List dY)(t1:Bool):Option Bool:=
 if t1 then
  r9 k l1 true
 else
  (
   Option.bind (ao l1 (0:Int)) fun o=>
   r9 k l1 (o.2.1 !=(-1:Int))
  )
def oG(k:Nat)(l1:List dY):Option Bool:=
 wN k l1 (((List.length l1:Int)==(0:Int))||(decide ((32:Int)<(List.length l1:Int))))
def E9(t1:Bool):Option Bool:=
 some (t1)
def wj(k:Nat)(o:List UInt8):Option Bool:=
 if decide ((List.length o:Int)<=(32:Int))then
  (
   Option.bind (oM k o ([97,98,99,100,101,102,103,104,105,106,107,108,109,110,111,112,113,114,115,116,117,118,119,120,121,122,48,49,50,51,52,53,54,55,56,57,45]:List UInt8)) fun v1=>
   E9 (v1==([]:List UInt8))
  )
 else
  E9 false
def AM(k:Nat)(l1:ee)(t1:Int):Option Bool:=
 some (l1.1==t1)
def KO(k:Nat)(o:List av)(f1:(Int×Unit))(go1:Int->Option Int)(t1:Int):Option Int:=
 if decide (t1<(List.length o:Int))then
  (
   Option.bind (ao o t1) fun O=>
   Option.bind (AM k O f1.1) fun v1=>
   if v1 then
    some (t1)
   else
    go1 (ai (t1+(1:Int)))
  )
 else
  some ((-1:Int))
def uq(k:Nat)(o:List av)(f1:(Int×Unit)):Nat->Int->Option Int
 |0,_=>none
 |n+1,t1=>KO k o f1 (uq k o f1 n) t1
def wF(k:Nat)(o:List av)(f1:(Int×Unit)):Option Int:=
 uq k o f1 k (0:Int)
def np(k:Nat)(o:aV)(U:Int):Option (ee×Int):=
 Option.bind (fL k (o.1,o.2.1,())) fun v1=>
 if v1 !=(0:Int)then
  some (((0:Int),(0:Int),(0:Int),()),v1)
 else
  (
   Option.bind (wF k o.2.1 (U,())) fun v2=>
   if decide (v2<(0:Int))then
    some (((0:Int),(0:Int),(0:Int),()),(5:Int))
   else
    (
     Option.bind (ao o.2.1 v2) fun O=>
     some ((O.1,O.2.1,O.2.2.1,()),(0:Int))
    )
  )
def qT(k:Nat)(o:aV)(O:Int):Option Bool:=
 Option.bind (np k (o.1,o.2.1,()) O) fun v1=>
 some (v1.2==(0:Int))
def pJ(k:Nat)(o:List UInt8)(l1:List (Int)):Option (Option (Option (Nat×Int))×Int×List (Int)):=
 Option.bind (zm k l1) fun v1=>
 Option.bind (aG (List.length l1+List.length (dF o)<=lim)) fun _=>
 some ((none:Option (Option (Nat×Int))),(List.length o:Int),l1++(dF o))
def oE(go1:Int->(List (Int))->Option eB)(t1:Int)(t3:List (Int)):Option eB:=
 go1 (ai (t1+(1:Int))) t3
def JQ(k:Nat)(O:aV)(U:Int)(W:Int)(go1:Int->(List (Int))->Option eB)(t1:Int)(t2:List (Int)):Option eB:=
 if decide (t1<(List.length O.1:Int))then
  (
   Option.bind (ao O.1 t1) fun o=>
   Option.bind (aG (0<=t1)) fun _=>
   if(dN (BitVec.toNat (BitVec.ofInt 32 (Int.fdiv U (2^min (t1).toNat 32))&&&BitVec.ofInt 32 (1:Int))))==(1:Int)then
    (
     Option.bind (aG (List.length ([43]:List UInt8)+List.length o<=lim)) fun _=>
     Option.bind (pJ k (([43]:List UInt8)++o) t2) fun v3=>
     oE go1 t1 v3.2.2
    )
   else
    (
     Option.bind (aG (0<=t1)) fun _=>
     if(dN (BitVec.toNat (BitVec.ofInt 32 (Int.fdiv W (2^min (t1).toNat 32))&&&BitVec.ofInt 32 (1:Int))))==(1:Int)then
      (
       Option.bind (aG (List.length ([45]:List UInt8)+List.length o<=lim)) fun _=>
       Option.bind (pJ k (([45]:List UInt8)++o) t2) fun v4=>
       oE go1 t1 v4.2.2
      )
     else
      oE go1 t1 t2
    )
  )
 else
  (
   Option.bind (q0 k t2) fun v5=>
   some (v5,(0:Int))
  )
def qf(k:Nat)(o:aV)(O:Int)(U:Int):Nat->Int->(List (Int))->Option eB
 |0,_,_=>none
 |n+1,t1,t2=>JQ k o O U (qf k o O U n) t1 t2
def sK(k:Nat)(o:aV)(O:Int)(U:Int):Option eB:=
 Option.bind (fL k (o.1,o.2.1,())) fun v1=>
 if v1 !=(0:Int)then
  some (([]:List UInt8),v1)
 else
  (
   Option.bind (kJ k (o.1,o.2.1,()) O U) fun v2=>
   if !v2 then
    some (([]:List UInt8),(20:Int))
   else
    qf k o O U k (0:Int) ([]:List (Int))
  )
def zn(k:Nat)(o:aV)(O:Int)(U:Int):Option Bool:=
 Option.bind (sK k (o.1,o.2.1,()) O U) fun v1=>
 some (v1.2==(0:Int))
def PZ(t1:Bool):Option Bool:=
 some (t1)
def uG(k:Nat)(o:aV)(O:Int)(U:Int)(W:Int):Option Bool:=
 if O !=(0:Int)then
  (
   Option.bind (qT k (o.1,o.2.1,()) O) fun v1=>
   PZ (v1&&((dN (BitVec.toNat (BitVec.ofInt 32 U|||BitVec.ofInt 32 W)))==(0:Int)))
  )
 else
  (
   Option.bind (zn k (o.1,o.2.1,()) U W) fun v2=>
   some (v2)
  )
def od(k:Nat)(O:aV)(o:nF)(t2:Bool):Option Bool:=
 if t2 then
  some (false)
 else
  (
   Option.bind (uG k (O.1,O.2.1,()) o.1 o.2.2.1 o.2.2.2.1) fun v1=>
   some (v1)
  )
def vp(k:Nat)(o:aV)(O:nF)(t3:Bool):Option Bool:=
 od k o O t3
def Gm(k:Nat)(o:aV)(O:nF)(t4:Bool):Option Bool:=
 vp k o O t4
def A2(k:Nat)(O:aV)(o:nF)(U:Int)(t1:Bool):Option Bool:=
 if t1 then
  od k O o true
 else
  (
   if o.1==(0:Int)then
    Gm k O o (decide (o.2.1<(0:Int))||(decide (U<=o.2.1)))
   else
    vp k O o false
  )
def rr(k:Nat)(O:aV)(o:nF)(U:Int):Option Bool:=
 A2 k O o U ((o.1 !=(0:Int))&&(o.2.1 !=(0:Int)))
def D5(o:List (Bool))(v1:Bool)(go1:Int->Option Int)(t1:Int):Option Int:=
 if decide (t1<(List.length o:Int))then
  (
   Option.bind (ao o t1) fun O=>
   if v1==O then
    some (t1)
   else
    go1 (ai (t1+(1:Int)))
  )
 else
  some ((-1:Int))
def p9(o:List (Bool))(v1:Bool):Nat->Int->Option Int
 |0,_=>none
 |n+1,t1=>D5 o v1 (p9 o v1 n) t1
def wg(k:Nat)(o:List (Bool))(v1:Bool):Option Int:=
 p9 o v1 k (0:Int)
def pE(k:Nat)(o:List (Bool))(v1:Bool):Option Bool:=
 Option.bind (wg k o v1) fun v2=>
 some (decide ((0:Int)<=v2))
def uK(t7:List (Bool))(o:Int)(go2:Int->(List (Bool))->Option Bool)(t6:Int)(t9:Bool):Option Bool:=
 if t9 then
  some (false)
 else
  (
   Option.bind (ao t7 o) fun O=>
   go2 (ai (t6+(1:Int))) (List.set t7 (o).toNat true)
  )
def Ef(t7:List (Bool))(o:Int)(go2:Int->(List (Bool))->Option Bool)(t6:Int)(t8:Bool):Option Bool:=
 if t8 then
  uK t7 o go2 t6 true
 else
  (
   Option.bind (ao t7 o) fun O=>
   uK t7 o go2 t6 O
  )
def FH(O:gb)(t2:Int)(U:eW)(go1:Int->(List (Bool))->Option Bool)(go2:Int->(List (Bool))->Option Bool)(t6:Int)(t7:List (Bool)):Option Bool:=
 if decide (t6<(List.length O.2.2.2.2.1:Int))then
  (
   Option.bind (ao O.2.2.2.2.1 t6) fun o=>
   Ef t7 o go2 t6 (decide (o<=t2)||(decide ((List.length U.1:Int)<=o)))
  )
 else
  go1 (ai (t2+(1:Int))) t7
def po(o:gb)(t2:Int)(O:eW)(go1:Int->(List (Bool))->Option Bool):Nat->Int->(List (Bool))->Option Bool
 |0,_,_=>none
 |n+1,t6,t7=>FH o t2 O go1 (po o t2 O go1 n) t6 t7
def pR(k:Nat)(o:gb)(t2:Int)(O:eW)(go1:Int->(List (Bool))->Option Bool)(t3:List (Bool))(t5:Bool):Option Bool:=
 if t5 then
  some (false)
 else
  po o t2 O go1 k (0:Int) t3
def Pd(k:Nat)(o:gb)(t2:Int)(O:eW)(go1:Int->(List (Bool))->Option Bool)(t3:List (Bool))(t10:Bool):Option Bool:=
 pR k o t2 O go1 t3 t10
def EM(k:Nat)(o:gb)(t2:Int)(O:eW)(go1:Int->(List (Bool))->Option Bool)(t3:List (Bool))(t4:Bool):Option Bool:=
 if t4 then
  pR k o t2 O go1 t3 true
 else
  Pd k o t2 O go1 t3 (((dN (BitVec.toNat (BitVec.ofInt 32 o.2.2.1|||BitVec.ofInt 32 o.2.2.2.1)))!=(0:Int))&&(o.1 !=(3:Int)))
def nk(k:Nat)(o:gb)(t2:Int)(O:eW)(go1:Int->(List (Bool))->Option Bool)(t3:List (Bool)):Option Bool:=
 EM k o t2 O go1 t3 ((o.2.1 !=(0:Int))&&(o.1 !=(2:Int)))
def kW(k:Nat)(o:gb)(t2:Int)(O:eW)(go1:Int->(List (Bool))->Option Bool)(t3:List (Bool))(t13:Bool):Option Bool:=
 if t13 then
  (
   if(List.length o.2.2.2.2.1:Int)!=(0:Int)then
    some (false)
   else
    nk k o t2 O go1 t3
  )
 else
  some (false)
def o8(k:Nat)(o:gb)(t2:Int)(O:eW)(go1:Int->(List (Bool))->Option Bool)(t3:List (Bool))(t12:Bool):Option Bool:=
 if t12 then
  (
   if(List.length o.2.2.2.2.1:Int)!=(1:Int)then
    some (false)
   else
    nk k o t2 O go1 t3
  )
 else
  (
   if o.1==(1:Int)then
    kW k o t2 O go1 t3 (o.1==(1:Int))
   else
    (
     if o.1==(2:Int)then
      kW k o t2 O go1 t3 (o.1==(2:Int))
     else
      (
       if o.1==(3:Int)then
        kW k o t2 O go1 t3 (o.1==(3:Int))
       else
        (
         if o.1==(4:Int)then
          kW k o t2 O go1 t3 (o.1==(4:Int))
         else
          kW k o t2 O go1 t3 (o.1==(5:Int))
        )
      )
    )
  )
def pq(k:Nat)(o:gb)(t2:Int)(O:eW)(go1:Int->(List (Bool))->Option Bool)(t3:List (Bool))(t11:Bool):Option Bool:=
 if t11 then
  nk k o t2 O go1 t3
 else
  (
   if o.1==(8:Int)then
    o8 k o t2 O go1 t3 (o.1==(8:Int))
   else
    o8 k o t2 O go1 t3 (o.1==(9:Int))
  )
def Dp(k:Nat)(O:eW)(go1:Int->(List (Bool))->Option Bool)(t2:Int)(t3:List (Bool)):Option Bool:=
 if decide (t2<(List.length O.1:Int))then
  (
   Option.bind (ao O.1 t2) fun o=>
   if o.1==(6:Int)then
    pq k o t2 O go1 t3 (o.1==(6:Int))
   else
    pq k o t2 O go1 t3 (o.1==(7:Int))
  )
 else
  (
   Option.bind (dK t3 (1:Int) (t3.length:Int)) fun U=>
   Option.bind (pE k U false) fun v1=>
   some (!v1)
  )
def gN(k:Nat)(o:eW):Nat->Int->(List (Bool))->Option Bool
 |0,_,_=>none
 |n+1,t2,t3=>Dp k o (gN k o n) t2 t3
def wB(k:Nat)(o:eW)(t1:Bool):Option Bool:=
 if t1 then
  some (false)
 else
  (
   Option.bind (aG (0<=(List.length o.1:Int)/\(List.length o.1:Int)<=(List.length o.1:Int)/\(List.length o.1:Int)<=(lim:Int))) fun _=>
   gN k o k (0:Int) (List.replicate ((List.length o.1:Int)).toNat false)
  )
def kr(k:Nat)(o:eW):Option Bool:=
 wB k o (decide ((List.length o.1:Int)<(1:Int))||(decide ((256:Int)<(List.length o.1:Int))))
def rF(go1:Int->Option Int)(t1:Int):Option Int:=
 go1 (ai (t1+(1:Int)))
def Ae(k:Nat)(U:eW)(O:aV)(go1:Int->Option Int)(t1:Int):Option Int:=
 if decide (t1<(List.length U.1:Int))then
  (
   Option.bind (ao U.1 t1) fun o=>
   if o.1==(2:Int)then
    (
     Option.bind (np k (O.1,O.2.1,()) o.2.1) fun v3=>
     if v3.2 !=(0:Int)then
      some ((40:Int))
     else
      rF go1 t1
    )
   else
    (
     if o.1==(3:Int)then
      (
       Option.bind (sK k (O.1,O.2.1,()) o.2.2.1 o.2.2.2.1) fun v4=>
       if v4.2 !=(0:Int)then
        some ((40:Int))
       else
        rF go1 t1
      )
     else
      rF go1 t1
    )
  )
 else
  some ((0:Int))
def ov(k:Nat)(o:eW)(O:aV):Nat->Int->Option Int
 |0,_=>none
 |n+1,t1=>Ae k o O (ov k o O n) t1
def pg(k:Nat)(o:aV)(O:eW):Option Int:=
 Option.bind (fL k (o.1,o.2.1,())) fun v1=>
 if v1 !=(0:Int)then
  some (v1)
 else
  (
   Option.bind (kr k (O.1,())) fun v2=>
   if !v2 then
    some ((40:Int))
   else
    ov k O o k (0:Int)
  )
def rl(t8:Bool):Option Int:=
 if t8 then
  some ((70:Int))
 else
  some ((0:Int))
def Dk(k:Nat)(O:dJ)(o:aV)(go2:Int->Option Int)(t7:Int):Option Int:=
 if decide (t7<(List.length O.2.2.1:Int))then
  (
   Option.bind (ao O.2.2.1 t7) fun U=>
   Option.bind (rr k (o.1,o.2.1,()) (U.1,U.2.1,U.2.2.1,U.2.2.2.1,()) (List.length O.2.1:Int)) fun v4=>
   if !v4 then
    some ((70:Int))
   else
    go2 (ai (t7+(1:Int)))
  )
 else
  (
   Option.bind (pg k (o.1,o.2.1,()) (O.2.2.2.1.1,())) fun v5=>
   if v5 !=(0:Int)then
    rl true
   else
    (
     Option.bind (pg k (o.1,o.2.1,()) (O.2.2.2.2.1.1,())) fun W=>
     rl (W !=(0:Int))
    )
  )
def ny(k:Nat)(o:dJ)(O:aV):Nat->Int->Option Int
 |0,_=>none
 |n+1,t7=>Dk k o O (ny k o O n) t7
def BE(k:Nat)(o:dJ)(O:aV)(go1:Int->Option Int)(t6:Int):Option Int:=
 if decide (t6<(List.length o.2.1:Int))then
  (
   Option.bind (ao o.2.1 t6) fun U=>
   Option.bind (uG k (O.1,O.2.1,()) U.1 U.2.1 U.2.2.1) fun v3=>
   if !v3 then
    some ((70:Int))
   else
    go1 (ai (t6+(1:Int)))
  )
 else
  ny k o O k (0:Int)
def pt(k:Nat)(o:dJ)(O:aV):Nat->Int->Option Int
 |0,_=>none
 |n+1,t6=>BE k o O (pt k o O n) t6
def EV(k:Nat)(o:dJ)(O:aV)(t5:Bool):Option Int:=
 if t5 then
  some ((70:Int))
 else
  pt k o O k (0:Int)
def B7(k:Nat)(o:dJ)(O:aV)(t4:Bool):Option Int:=
 EV k o O (t4||((ai ((List.length o.2.1:Int)+(List.length o.2.2.1:Int)))==(0:Int)))
def Ci(k:Nat)(o:dJ)(O:aV)(t3:Bool):Option Int:=
 B7 k o O (t3||(decide ((8:Int)<(List.length o.2.2.1:Int))))
def Ac(k:Nat)(o:dJ)(O:aV)(t2:Bool):Option Int:=
 Ci k o O (t2||(decide ((8:Int)<(List.length o.2.1:Int))))
def E1(k:Nat)(o:dJ)(O:aV)(t1:Bool):Option Int:=
 Ac k o O (t1||(decide ((3:Int)<o.2.2.2.2.2.1)))
def oe(k:Nat)(o:aV)(O:dJ):Option Int:=
 Option.bind (fL k (o.1,o.2.1,())) fun v1=>
 if v1 !=(0:Int)then
  some (v1)
 else
  (
   Option.bind (wj k O.1) fun v2=>
   E1 k O o ((!v2)||(decide (O.2.2.2.2.2.1<(1:Int))))
  )
def BJ(k:Nat)(l1:List mZ)(O:aV)(go1:Int->Option Int)(t1:Int):Option Int:=
 if decide (t1<(List.length l1:Int))then
  (
   Option.bind (ao l1 t1) fun o=>
   Option.bind (oe k (O.1,O.2.1,()) (o.1,o.2.1,o.2.2.1,(o.2.2.2.1.1,()),(o.2.2.2.2.1.1,()),o.2.2.2.2.2.1,o.2.2.2.2.2.2.1,())) fun v2=>
   if v2 !=(0:Int)then
    some (v2)
   else
    go1 (ai (t1+(1:Int)))
  )
 else
  some ((0:Int))
def p7(k:Nat)(l1:List mZ)(o:aV):Nat->Int->Option Int
 |0,_=>none
 |n+1,t1=>BJ k l1 o (p7 k l1 o n) t1
def oD(k:Nat)(o:aV)(l1:List mZ):Option Int:=
 Option.bind (fL k (o.1,o.2.1,())) fun v1=>
 if v1 !=(0:Int)then
  some (v1)
 else
  (
   if decide ((64:Int)<(List.length l1:Int))then
    some ((4:Int))
   else
    p7 k l1 o k (0:Int)
  )
def J3(k:Nat)(f1:dq)(go1:Int->Option Int)(t1:Int):Option Int:=
 if decide (t1<(List.length f1.2.1:Int))then
  (
   Option.bind (ao f1.2.1 t1) fun o=>
   Option.bind (oD k (f1.1.1,f1.1.2.1,()) o.2.2.1) fun v3=>
   if v3 !=(0:Int)then
    some (v3)
   else
    go1 (ai (t1+(1:Int)))
  )
 else
  some ((0:Int))
def rD(k:Nat)(f1:dq):Nat->Int->Option Int
 |0,_=>none
 |n+1,t1=>J3 k f1 (rD k f1 n) t1
def ge(k:Nat)(f1:dq):Option Int:=
 Option.bind (fL k (f1.1.1,f1.1.2.1,())) fun v1=>
 if v1 !=(0:Int)then
  some (v1)
 else
  (
   Option.bind (oG k f1.2.1) fun v2=>
   if !v2 then
    some ((270:Int))
   else
    rD k f1 k (0:Int)
  )
def FQ(go1:Int->Option Int)(t1:Int)(t2:Bool):Option Int:=
 if t2 then
  some ((8:Int))
 else
  go1 (ai (t1+(1:Int)))
def Hf(o:List (Int))(f1:dq)(go1:Int->Option Int)(t1:Int):Option Int:=
 if decide (t1<(List.length o:Int))then
  (
   Option.bind (ao o t1) fun O=>
   FQ go1 t1 (decide (O<(0:Int))||(decide ((List.length f1.2.1:Int)<=O)))
  )
 else
  some ((0:Int))
def sX(o:List (Int))(f1:dq):Nat->Int->Option Int
 |0,_=>none
 |n+1,t1=>Hf o f1 (sX o f1 n) t1
def o3(k:Nat)(f1:dq)(o:List (Int)):Option Int:=
 Option.bind (ge k ((f1.1.1,f1.1.2.1,()),f1.2.1,())) fun v1=>
 if v1 !=(0:Int)then
  some (v1)
 else
  sX o f1 k (0:Int)
def Da(f1:dq)(go1:Int->(List (Int))->Option (List (Int)))(o:Int)(O:List (Int)):Option (List (Int)):=
 if decide ((0:Int)<=o)then
  (
   Option.bind (aG (List.length O+List.length ([o]:List (Int))<=lim)) fun _=>
   Option.bind (ao f1.2.1 o) fun U=>
   go1 U.2.1 (O++([o]:List (Int)))
  )
 else
  some (List.reverse O)
def qU(f1:dq):Nat->Int->(List (Int))->Option (List (Int))
 |0,_,_=>none
 |n+1,o,O=>Da f1 (qU f1 n) o O
def ro(k:Nat)(f1:dq)(o:Int):Option (List (Int)):=
 qU f1 k o ([]:List (Int))
end Go.Ev
namespace Go.Ev
open Go
set_option linter.unusedVariables false
def US(o:List (Int))(go1:Int->Option Int)(t1:Int):Option Int:=
 if decide (t1<(List.length o:Int))then
  (
   Option.bind (ao o t1) fun O=>
   if O !=(0:Int)then
    some (O)
   else
    go1 (ai (t1+(1:Int)))
  )
 else
  some ((0:Int))
def Fj(o:List (Int)):Nat->Int->Option Int
 |0,_=>none
 |n+1,t1=>US o (Fj o n) t1
def s5(k:Nat)(o:List (Int)):Option Int:=
 Fj o k (0:Int)
def kC(k:Nat)(o:(Int×Int×Unit))(O:(Int×Int×Unit))(t1:Option iq)(t2:Option gq):Option Int:=
 Option.bind (s5 k ([ai (((bn (aD dU) (t1.getD []) (O.1,O.2.1,())).getD (0:Int))-((bn (aD dU) (t1.getD []) (o.1,o.2.1,())).getD (0:Int))),ai (((bn (aD (.int .i32)) (t2.getD []) o.1).getD (0:Int))-((bn (aD (.int .i32)) (t2.getD []) O.1).getD (0:Int))),ai (((bn (aD (.int .i32)) (t2.getD []) o.2.1).getD (0:Int))-((bn (aD (.int .i32)) (t2.getD []) O.2.1).getD (0:Int)))]:List (Int))) fun v1=>
 some (v1)
end Go.Ev
namespace Go.Ev
open Go Go.Proofs Go.Sort
section
variable {X:Type}
def ins(lt:X->X->Bool)(x:X):List X->List X
 |[]=>[x]
 |y::l=>bif lt y x then y::ins lt x l else x::y::l
def jY(lt:X->X->Bool):List X->List X
 |[]=>[]
 |x::l=>ins lt x (jY lt l)
def eh(c:X->X->Option Int)(x y:X):Bool:=match c x y with
 |some n=>decide (n<0)
 |none=>false
def mO[DecidableEq X](c:X->X->Option Int)(l:List X):Bool:=
 l.all fun x=>l.all fun y=>(c x y).isSome&&(bif decide (x=y)then !eh c x y else(eh c x y||eh c y x)&&!(eh c x y&&eh c y x))&&l.all fun z=>!(eh c x y&&eh c y z)||eh c x z
def xi[DecidableEq X](c:X->X->Option Int)(l:List X):Option (List X):=bif mO c l then some (jY (eh c) l)else none
theorem Cd(lt:X->X->Bool)(x:X):∀l,(ins lt x l).Perm (x::l)
 |[]=>List.Perm.refl _
 |y::l=>by
  unfold ins
  cases lt y x with
  |true=>exact((Cd lt x l).cons y).trans (List.Perm.swap x y l)
  |false=>exact List.Perm.refl _
theorem rV(lt:X->X->Bool):∀l,(jY lt l).Perm l
 |[]=>List.Perm.refl _
 |x::l=>(Cd lt x _).trans ((rV lt l).cons x)
structure kY(lt:X->X->Bool)(S:X->Prop):Prop where
 Le:∀x,S x->lt x x=false
 Dl:∀x y z,S x->S y->S z->lt x y=true->lt y z=true->lt x z=true
 Ff:∀x y,S x->S y->x≠y->lt x y=true\/lt y x=true
theorem kY.asym{lt:X->X->Bool}{S:X->Prop}(h:kY lt S){x y:X}(o:S x)(O:S y)(h1:lt x y=true):lt y x=false:=by
 cases U:lt y x with
 |false=>rfl
 |true=>have:=h.Dl x y x o O o h1 U;rw[h.Le x o]at this;cases this
theorem kY.MH{lt:X->X->Bool}{S:X->Prop}(h:kY lt S){x y z:X}(U:S x)(W:S y)(Y:S z)(h1:lt x y=false)(Z:lt y z=false):lt x z=false:=by
 by_cases la:x=y
 ·rw[la];exact Z
 by_cases lc:y=z
 ·rw[<-lc];exact h1
 rcases h.Ff x y U W la with o|o
 ·rw[h1]at o;cases o
 rcases h.Ff y z W Y lc with O|O
 ·rw[Z]at O;cases O
 exact h.asym Y U (h.Dl z y x Y W U O o)
theorem LW{lt:X->X->Bool}{S:X->Prop}(h:kY lt S){x:X}(O:S x):∀{l:List X},(∀y∈l,S y)->l.Pairwise (fun a b=>lt b a=false)->(ins lt x l).Pairwise (fun a b=>lt b a=false)
 |[],_,_=>by simp[ins]
 |y::l,W,Y=>by
  obtain⟨h1,lc⟩:=List.pairwise_cons.1 Y
  have Z:=W y List.mem_cons_self
  have la:∀z∈l,S z:=fun z o=>W z (List.mem_cons_of_mem _ o)
  unfold ins
  cases U:lt y x with
  |true=>
   refine List.pairwise_cons.2 ⟨fun z o=>?_,LW h O la lc⟩
   rcases List.mem_cons.1 ((Cd lt x l).mem_iff.1 o)with rfl|o
   ·exact h.asym Z O U
   ·exact h1 z o
  |false=>
   refine List.pairwise_cons.2 ⟨fun z o=>?_,Y⟩
   rcases List.mem_cons.1 o with rfl|o
   ·exact U
   ·exact h.MH (la z o) Z O (h1 z o) U
theorem Br{lt:X->X->Bool}{S:X->Prop}(h:kY lt S):∀{l:List X},(∀y∈l,S y)->(jY lt l).Pairwise (fun a b=>lt b a=false)
 |[],_=>List.Pairwise.nil
 |x::l,o=>LW h (o x List.mem_cons_self) (fun y O=>o y (List.mem_cons_of_mem _ ((rV lt l).mem_iff.1 O))) (Br h fun y O=>o y (List.mem_cons_of_mem _ O))
theorem RP{lt:X->X->Bool}{S:X->Prop}(h:kY lt S){l m:List X}(O:∀y∈l,S y)(U:m.Perm l)(W:m.Pairwise (fun a b=>lt b a=false)):m=jY lt l:=by
 refine List.Perm.eq_of_pairwise (le:=fun a b=>lt b a=false) (fun a b Y Z h1 la=>?_) W (Br h O) (U.trans (rV lt l).symm)
 have eH:=O a (U.mem_iff.1 Y)
 have lc:=O b ((rV lt l).mem_iff.1 Z)
 refine Classical.byContradiction fun ld=>?_
 rcases h.Ff a b eH lc ld with o|o
 ·rw[la]at o;cases o
 ·rw[h1]at o;cases o
theorem Mr[DecidableEq X]{c:X->X->Option Int}{l:List X}(h:mO c l=true):kY (eh c) (· ∈l)/\∀x∈l,∀y∈l,∃n,c x y=some n:=by
 have key:∀x∈l,∀y∈l,(c x y).isSome=true/\(bif decide (x=y)then !eh c x y else(eh c x y||eh c y x)&&!(eh c x y&&eh c y x))=true/\∀z∈l,(!(eh c x y&&eh c y z)||eh c x z)=true:=by
  intro x o y O
  have:=List.all_eq_true.1 (List.all_eq_true.1 h x o) y O
  simp only[Bool.and_eq_true,List.all_eq_true]at this
  exact⟨this.1.1,this.1.2,this.2⟩
 refine⟨⟨fun x o=>?_,fun x y z o O U h1 W=>?_,fun x y o O Y=>?_⟩,fun x o y O=>Option.isSome_iff_exists.1 (key x o y O).1⟩
 ·have:=(key x o x o).2.1
  simpa using this
 ·have:=(key x o y O).2.2 z U
  rw[h1,W]at this
  simpa using this
 ·have:=(key x o y O).2.1
  rw[decide_eq_false Y]at this
  simp only[cond_false,Bool.and_eq_true,Bool.or_eq_true]at this
  exact this.1
theorem kY.swo{lt:X->X->Bool}{S:X->Prop}(h:kY lt S){O:{x:X//S x}->{x:X//S x}->Int}(o:∀x y,ltOf O x y=lt x.1 y.1):SWO (ltOf O) where
 irrefl x:=by rw[o];exact h.Le _ x.2
 trans x y z:=by rw[o,o,o];exact h.Dl _ _ _ x.2 y.2 z.2
 ntrans x y z:=by rw[o,o,o];exact h.MH x.2 y.2 z.2
theorem R6{α:Type}[Inhabited α]{lt:α->α->Bool}{d:Array α}(h:SortedIn lt 0 d.size d):d.toList.Pairwise (fun a b=>lt b a=false):=by
 rw[List.pairwise_iff_getElem]
 intro i j O U W
 have Y:i<d.size:=by simpa using O
 have o:j<d.size:=by simpa using U
 have:=h i j (Nat.zero_le _) W o
 rw[getElem!_pos d j o,getElem!_pos d i Y]at this
 simpa using this
theorem NZ{α:Type}[Inhabited α]{d d':Array α}(h:PermIn 0 d.size d d'):d'.toList.Perm d.toList/\d'.size=d.size:=by
 obtain⟨h1,_,o⟩:=h
 refine⟨?_,h1⟩
 have O:d.extract 0 d.size=d:=Array.extract_size
 have U:d'.extract 0 d.size=d':=by rw[<-h1];exact Array.extract_size
 rw[O,U]at o
 exact o
end
end Go.Ev
namespace Go.Ev
open Go
def k8(k:Nat)(ps:List ((Int×Int×Unit)×Int))(os:List (Int×Int)):Option (List (Int×Int×Unit)):=
 bif Nat.blt ps.length 1000000 then xi (fun x y=>kC k x y (some ps) (some os)) (ps.map (·.1))else none
end Go.Ev
namespace Go.Ev
open Go
set_option linter.unusedVariables false
end Go.Ev
namespace Go.Ev
open Go
set_option linter.unusedVariables false
def Hh(k:Nat):Option aV:=
 some ((([([118,111,105,99,101,100]:List UInt8),([110,97,115,97,108]:List UInt8),([118,111,119,101,108]:List UInt8)]:List (List UInt8)),([((112:Int),(0:Int),(7:Int),()),((98:Int),(1:Int),(6:Int),()),((109:Int),(3:Int),(4:Int),()),((97:Int),(4:Int),(3:Int),())]:List av),()))
def K9(k:Nat):Option pT:=
 some (([([([112,97]:List UInt8),([98,97]:List UInt8)]:List (List UInt8)),([([97,112]:List UInt8),([97,98]:List UInt8)]:List (List UInt8)),([([112,97]:List UInt8),([97]:List UInt8)]:List (List UInt8))]:List aS))
def Ad(o:aV)(go1:Int->gq->Option (Option gq×Int))(t1:Int)(m1:List (Int×Int)):Option (Option gq×Int):=
 if decide (t1<(List.length o.2.1:Int))then
  (
   Option.bind (ao o.2.1 t1) fun O=>
   go1 (ai (t1+(1:Int))) (cb (aD (.int .i32)) m1 O.1 t1)
  )
 else
  some (some m1,(0:Int))
def nZ(o:aV):Nat->Int->gq->Option (Option gq×Int)
 |0,_,_=>none
 |n+1,t1,m1=>Ad o (nZ o n) t1 m1
def xC(k:Nat)(o:aV):Option (Option gq×Int):=
 Option.bind (fL k (o.1,o.2.1,())) fun v1=>
 if v1 !=(0:Int)then
  some ((none:Option gq),v1)
 else
  nZ o k (0:Int) ([]:List (Int×Int))
def yt(k:Nat)(o:List UInt8):Option Int:=
 if decide ((65536:Int)<(List.length o:Int))then
  some ((3:Int))
 else
  some ((0:Int))
def Mu(o:Int)(t1:Bool):Option Int:=
 if t1 then
  some ((-1:Int))
 else
  (
   if decide (o<=(65535:Int))then
    some ((3:Int))
   else
    (
     if decide (o<=(1114111:Int))then
      some ((4:Int))
     else
      some ((-1:Int))
    )
  )
def yb(k:Nat)(o:Int):Option Int:=
 if decide (o<(0:Int))then
  some ((-1:Int))
 else
  (
   if decide (o<=(127:Int))then
    some ((1:Int))
   else
    (
     if decide (o<=(2047:Int))then
      some ((2:Int))
     else
      Mu o (decide ((55296:Int)<=o)&&(decide (o<=(57343:Int))))
    )
  )
def qu(k:Nat)(o:kS)(l1:List gg):Option (Bool×List gg):=
 Option.bind (aG (List.length l1+List.length ([(o.1,o.2.1,o.2.2.1,o.2.2.2.1,())]:List gg)<=lim)) fun _=>
 some (true,l1++([(o.1,o.2.1,o.2.2.1,o.2.2.2.1,())]:List gg))
def nT(k:Nat)(O:List UInt8)(o:Nat)(t2:List gg)(go1:Nat->kz->Option kz)(U:Int)(W:Bool):Option kz:=
 Option.bind (qu k (im O o,(o:Int),U,W,()) t2) fun v2=>
 if !v2.1 then
  some v2.2
 else
  go1 (o+kH O o) v2.2
def Fq(k:Nat)(o:List UInt8)(go1:Nat->kz->Option kz)(O:Nat)(t2:List gg):Option kz:=
 if decide (O<List.length o)then
  (
   Option.bind (yb k (im o O)) fun v1=>
   if(im o O)==(65533:Int)then
    (
     Option.bind (dK o (O:Int) (o.length:Int)) fun U=>
     Option.bind (utf8_DecodeRuneInString k U) fun v3=>
     if v3.2==(1:Int)then
      nT k o O t2 go1 (1:Int) true
     else
      nT k o O t2 go1 v1 false
    )
   else
    nT k o O t2 go1 v1 false
  )
 else
  some t2
def nj(k:Nat)(o:List UInt8):Nat->Nat->kz->Option kz
 |0,_,_=>none
 |n+1,O,t2=>Fq k o (nj k o n) O t2
def rW(k:Nat)(o:List UInt8)(l1:List gg):Option kz:=
 nj k o k 0 l1
def sL(k:Nat)(o:List UInt8):Option (List gg×Int):=
 Option.bind (yt k o) fun v1=>
 if v1 !=(0:Int)then
  some (([]:List gg),v1)
 else
  (
   Option.bind (rW k o ([]:List gg)) fun v2=>
   some (v2,(0:Int))
  )
def Ab(v1:(List gg×Int))(m1:Option gq)(go1:Int->(List (Int))->Option dI)(t1:Int)(o:List (Int)):Option dI:=
 if decide (t1<(List.length v1.1:Int))then
  (
   Option.bind (ao v1.1 t1) fun O=>
   if O.2.2.2.1 then
    some (([]:List (Int)),(6:Int))
   else
    (
     if !((bn (aD (.int .i32)) (m1.getD []) O.1).isSome)then
      some (([]:List (Int)),(5:Int))
     else
      (
       if(List.length o:Int)==(64:Int)then
        some (([]:List (Int)),(4:Int))
       else
        (
         Option.bind (aG (List.length o+List.length ([O.1]:List (Int))<=lim)) fun _=>
         go1 (ai (t1+(1:Int))) (o++([O.1]:List (Int)))
        )
      )
    )
  )
 else
  some (o,(0:Int))
def nN(v1:(List gg×Int))(m1:Option gq):Nat->Int->(List (Int))->Option dI
 |0,_,_=>none
 |n+1,t1,o=>Ab v1 m1 (nN v1 m1 n) t1 o
def qW(k:Nat)(m1:Option gq)(o:List UInt8):Option dI:=
 Option.bind (sL k o) fun v1=>
 if v1.2 !=(0:Int)then
  some (([]:List (Int)),v1.2)
 else
  nN v1 m1 k (0:Int) ([]:List (Int))
def sZ(k:Nat)(m1:Option gq)(o:List UInt8):Option dI:=
 if decide ((65536:Int)<(List.length o:Int))then
  (
   Option.bind (dK o (0:Int) (65536:Int)) fun O=>
   qW k m1 O
  )
 else
  qW k m1 o
def gS(k:Nat)(o:aV)(O:List UInt8):Option dI:=
 Option.bind (xC k (o.1,o.2.1,())) fun v1=>
 if v1.2 !=(0:Int)then
  some (([]:List (Int)),v1.2)
 else
  (
   Option.bind (sZ k v1.1 O) fun v2=>
   some (v2.1,v2.2)
  )
def yD(k:Nat)(o:Int):Option Int:=
 Option.bind (aG (0<=(24:Int))) fun _=>
 Option.bind (fH ([0,1,1,2,1,2,2,3,1,2,2,3,2,3,3,4,1,2,2,3,2,3,3,4,2,3,3,4,3,4,4,5,1,2,2,3,2,3,3,4,2,3,3,4,3,4,4,5,2,3,3,4,3,4,4,5,3,4,4,5,4,5,5,6,1,2,2,3,2,3,3,4,2,3,3,4,3,4,4,5,2,3,3,4,3,4,4,5,3,4,4,5,4,5,5,6,2,3,3,4,3,4,4,5,3,4,4,5,4,5,5,6,3,4,4,5,4,5,5,6,4,5,5,6,5,6,6,7,1,2,2,3,2,3,3,4,2,3,3,4,3,4,4,5,2,3,3,4,3,4,4,5,3,4,4,5,4,5,5,6,2,3,3,4,3,4,4,5,3,4,4,5,4,5,5,6,3,4,4,5,4,5,5,6,4,5,5,6,5,6,6,7,2,3,3,4,3,4,4,5,3,4,4,5,4,5,5,6,3,4,4,5,4,5,5,6,4,5,5,6,5,6,6,7,3,4,4,5,4,5,5,6,4,5,5,6,5,6,6,7,4,5,5,6,5,6,6,7,5,6,6,7,6,7,7,8]:List UInt8) (Int.fdiv o (2^min ((24:Int)).toNat 32))) fun O=>
 Option.bind (aG (0<=(16:Int))) fun _=>
 Option.bind (fH ([0,1,1,2,1,2,2,3,1,2,2,3,2,3,3,4,1,2,2,3,2,3,3,4,2,3,3,4,3,4,4,5,1,2,2,3,2,3,3,4,2,3,3,4,3,4,4,5,2,3,3,4,3,4,4,5,3,4,4,5,4,5,5,6,1,2,2,3,2,3,3,4,2,3,3,4,3,4,4,5,2,3,3,4,3,4,4,5,3,4,4,5,4,5,5,6,2,3,3,4,3,4,4,5,3,4,4,5,4,5,5,6,3,4,4,5,4,5,5,6,4,5,5,6,5,6,6,7,1,2,2,3,2,3,3,4,2,3,3,4,3,4,4,5,2,3,3,4,3,4,4,5,3,4,4,5,4,5,5,6,2,3,3,4,3,4,4,5,3,4,4,5,4,5,5,6,3,4,4,5,4,5,5,6,4,5,5,6,5,6,6,7,2,3,3,4,3,4,4,5,3,4,4,5,4,5,5,6,3,4,4,5,4,5,5,6,4,5,5,6,5,6,6,7,3,4,4,5,4,5,5,6,4,5,5,6,5,6,6,7,4,5,5,6,5,6,6,7,5,6,6,7,6,7,7,8]:List UInt8) (dN (BitVec.toNat (BitVec.ofInt 32 (Int.fdiv o (2^min ((16:Int)).toNat 32))&&&BitVec.ofInt 32 (255:Int))))) fun U=>
 Option.bind (aG (0<=(8:Int))) fun _=>
 Option.bind (fH ([0,1,1,2,1,2,2,3,1,2,2,3,2,3,3,4,1,2,2,3,2,3,3,4,2,3,3,4,3,4,4,5,1,2,2,3,2,3,3,4,2,3,3,4,3,4,4,5,2,3,3,4,3,4,4,5,3,4,4,5,4,5,5,6,1,2,2,3,2,3,3,4,2,3,3,4,3,4,4,5,2,3,3,4,3,4,4,5,3,4,4,5,4,5,5,6,2,3,3,4,3,4,4,5,3,4,4,5,4,5,5,6,3,4,4,5,4,5,5,6,4,5,5,6,5,6,6,7,1,2,2,3,2,3,3,4,2,3,3,4,3,4,4,5,2,3,3,4,3,4,4,5,3,4,4,5,4,5,5,6,2,3,3,4,3,4,4,5,3,4,4,5,4,5,5,6,3,4,4,5,4,5,5,6,4,5,5,6,5,6,6,7,2,3,3,4,3,4,4,5,3,4,4,5,4,5,5,6,3,4,4,5,4,5,5,6,4,5,5,6,5,6,6,7,3,4,4,5,4,5,5,6,4,5,5,6,5,6,6,7,4,5,5,6,5,6,6,7,5,6,6,7,6,7,7,8]:List UInt8) (dN (BitVec.toNat (BitVec.ofInt 32 (Int.fdiv o (2^min ((8:Int)).toNat 32))&&&BitVec.ofInt 32 (255:Int))))) fun W=>
 Option.bind (fH ([0,1,1,2,1,2,2,3,1,2,2,3,2,3,3,4,1,2,2,3,2,3,3,4,2,3,3,4,3,4,4,5,1,2,2,3,2,3,3,4,2,3,3,4,3,4,4,5,2,3,3,4,3,4,4,5,3,4,4,5,4,5,5,6,1,2,2,3,2,3,3,4,2,3,3,4,3,4,4,5,2,3,3,4,3,4,4,5,3,4,4,5,4,5,5,6,2,3,3,4,3,4,4,5,3,4,4,5,4,5,5,6,3,4,4,5,4,5,5,6,4,5,5,6,5,6,6,7,1,2,2,3,2,3,3,4,2,3,3,4,3,4,4,5,2,3,3,4,3,4,4,5,3,4,4,5,4,5,5,6,2,3,3,4,3,4,4,5,3,4,4,5,4,5,5,6,3,4,4,5,4,5,5,6,4,5,5,6,5,6,6,7,2,3,3,4,3,4,4,5,3,4,4,5,4,5,5,6,3,4,4,5,4,5,5,6,4,5,5,6,5,6,6,7,3,4,4,5,4,5,5,6,4,5,5,6,5,6,6,7,4,5,5,6,5,6,6,7,5,6,6,7,6,7,7,8]:List UInt8) (dN (BitVec.toNat (BitVec.ofInt 32 o&&&BitVec.ofInt 32 (255:Int))))) fun Y=>
 some (ai (ou ((ou ((ou (O+U))+W))+Y)))
def oH(k:Nat)(o:ee)(O:ee):Option Int:=
 Option.bind (yD k (dN (BitVec.toNat (BitVec.ofInt 32 (dN (BitVec.toNat (BitVec.ofInt 32 o.2.1^^^BitVec.ofInt 32 O.2.1)))|||BitVec.ofInt 32 (dN (BitVec.toNat (BitVec.ofInt 32 o.2.2.1^^^BitVec.ofInt 32 O.2.2.1))))))) fun v1=>
 some (v1)
def Ep(k:Nat)(o:aV)(O:Int)(U:Int):Option (Int×Int):=
 Option.bind (np k (o.1,o.2.1,()) O) fun v1=>
 if v1.2 !=(0:Int)then
  some ((0:Int),v1.2)
 else
  (
   Option.bind (np k (o.1,o.2.1,()) U) fun v2=>
   if v2.2 !=(0:Int)then
    some ((0:Int),v2.2)
   else
    (
     Option.bind (oH k (v1.1.1,v1.1.2.1,v1.1.2.2.1,()) (v2.1.1,v2.1.2.1,v2.1.2.2.1,())) fun v3=>
     some (v3,(0:Int))
    )
  )
def Hu(k:Nat)(o:aV)(O:Int)(U:Int)(t1:Bool):Option Int:=
 if t1 then
  some ((5:Int))
 else
  (
   Option.bind (Ep k (o.1,o.2.1,()) O U) fun v1=>
   some (ai ((2:Int)+v1.1))
  )
def jn(k:Nat)(U:aV)(o:Int)(O:Int):Option Int:=
 if o==O then
  some ((0:Int))
 else
  Hu k U o O ((o==(0:Int))||(O==(0:Int)))
def s7(go2:Int->bE->Option bE)(o:Int)(O:bE):Option bE:=
 go2 (ai (o-(1:Int))) O
def nS(i1:Int)(o:Int)(O:bE)(go2:Int->bE->Option bE)(Y:Int)(Z:Int)(la:Int)(n3:Int):Option bE:=
 Option.bind (aG (0<=i1/\i1<(65:Int))) fun _=>
 Option.bind (aG (0<=o/\o<(65:Int))) fun _=>
 Option.bind (aG (0<=i1/\i1<(65:Int))) fun _=>
 Option.bind (ao O.2.2.1 i1) fun U=>
 Option.bind (ao U o) fun lc=>
 Option.bind (aG (0<=o/\o<(65:Int))) fun _=>
 Option.bind (ao O.2.2.2.1 i1) fun W=>
 Option.bind (ao W o) fun ld=>
 s7 go2 o (O.1,O.2.1,List.set O.2.2.1 (i1).toNat (List.set U (o).toNat (cC (cC Y Z) la)),List.set O.2.2.2.1 (i1).toNat (List.set W (o).toNat (cC n3 (1048577:Int))),())
def s8(O:Int)(U:Int)(W:Int)(i1:Int)(o:Int)(Y:bE)(go2:Int->bE->Option bE)(Z:Int):Option bE:=
 if O==(cC (cC U W) O)then
  (
   Option.bind (aG (0<=i1/\i1<(65:Int))) fun _=>
   Option.bind (aG (0<=(ai (o+(1:Int)))/\(ai (o+(1:Int)))<(65:Int))) fun _=>
   Option.bind (ao Y.2.2.2.1 i1) fun la=>
   Option.bind (ao la (ai (o+(1:Int)))) fun lc=>
   nS i1 o Y go2 U W O (ai (Z+lc))
  )
 else
  nS i1 o Y go2 U W O Z
def sn(O:Int)(U:Int)(W:Int)(i1:Int)(o:Int)(Y:bE)(go2:Int->bE->Option bE)(Z:Int):Option bE:=
 if O==(cC (cC U O) W)then
  (
   Option.bind (aG (0<=(ai (i1+(1:Int)))/\(ai (i1+(1:Int)))<(65:Int))) fun _=>
   Option.bind (aG (0<=o/\o<(65:Int))) fun _=>
   Option.bind (ao Y.2.2.2.1 (ai (i1+(1:Int)))) fun la=>
   Option.bind (ao la o) fun lc=>
   s8 W U O i1 o Y go2 (ai (Z+lc))
  )
 else
  s8 W U O i1 o Y go2 Z
def o9(O:Int)(U:Int)(i1:Int)(o:Int)(W:bE)(go2:Int->bE->Option bE)(Y:Int):Option bE:=
 if O==(cC (cC O U) Y)then
  (
   Option.bind (aG (0<=(ai (i1+(1:Int)))/\(ai (i1+(1:Int)))<(65:Int))) fun _=>
   Option.bind (aG (0<=(ai (o+(1:Int)))/\(ai (o+(1:Int)))<(65:Int))) fun _=>
   Option.bind (ao W.2.2.2.1 (ai (i1+(1:Int)))) fun Z=>
   Option.bind (ao Z (ai (o+(1:Int)))) fun la=>
   sn U O Y i1 o W go2 (ai ((0:Int)+la))
  )
 else
  sn U O Y i1 o W go2 (0:Int)
def um(o:Int)(Y:List (Int))(i1:Int)(O:bE)(U:Int)(go2:Int->bE->Option bE)(W:Int):Option bE:=
 if decide (o<(List.length Y:Int))then
  (
   Option.bind (aG (0<=i1/\i1<(65:Int))) fun _=>
   Option.bind (aG (0<=(ai (o+(1:Int)))/\(ai (o+(1:Int)))<(65:Int))) fun _=>
   Option.bind (ao O.2.2.1 i1) fun Z=>
   Option.bind (ao Z (ai (o+(1:Int)))) fun la=>
   o9 U W i1 o O go2 (ai ((5:Int)+la))
  )
 else
  o9 U W i1 o O go2 (1073741824:Int)
def tQ(i1:Int)(Y:List (Int))(o:Int)(O:bE)(U:List (Int))(go2:Int->bE->Option bE)(W:Int):Option bE:=
 if decide (i1<(List.length Y:Int))then
  (
   Option.bind (aG (0<=(ai (i1+(1:Int)))/\(ai (i1+(1:Int)))<(65:Int))) fun _=>
   Option.bind (aG (0<=o/\o<(65:Int))) fun _=>
   Option.bind (ao O.2.2.1 (ai (i1+(1:Int)))) fun Z=>
   Option.bind (ao Z o) fun la=>
   um o U i1 O W go2 (ai ((5:Int)+la))
  )
 else
  um o U i1 O W go2 (1073741824:Int)
def Bk(k:Nat)(O:List (Int))(i1:Int)(U:List (Int))(o:Int)(a2:List (List UInt8))(a3:List av)(W:bE)(go2:Int->bE->Option bE)(t2:Bool):Option bE:=
 if t2 then
  (
   Option.bind (ao O i1) fun Y=>
   Option.bind (ao U o) fun Z=>
   Option.bind (jn k (a2,a3,()) Y Z) fun v1=>
   Option.bind (aG (0<=(ai (i1+(1:Int)))/\(ai (i1+(1:Int)))<(65:Int))) fun _=>
   Option.bind (aG (0<=(ai (o+(1:Int)))/\(ai (o+(1:Int)))<(65:Int))) fun _=>
   Option.bind (ao W.2.2.1 (ai (i1+(1:Int)))) fun la=>
   Option.bind (ao la (ai (o+(1:Int)))) fun lc=>
   tQ i1 O o W U go2 (ai (v1+lc))
  )
 else
  tQ i1 O o W U go2 (1073741824:Int)
def FN(k:Nat)(go2:Int->bE->Option bE)(o:Int)(O:bE)(U:List (Int))(i1:Int)(W:List (Int))(a2:List (List UInt8))(a3:List av)(t1:Bool):Option bE:=
 if t1 then
  s7 go2 o O
 else
  Bk k U i1 W o a2 a3 O go2 (decide (i1<(List.length U:Int))&&(decide (o<(List.length W:Int))))
def zo(k:Nat)(O:List (Int))(i1:Int)(U:List (Int))(a2:List (List UInt8))(a3:List av)(go1:Int->aS->aN->bE->Option bE)(go2:Int->bE->Option bE)(o:Int)(W:bE):Option bE:=
 if decide ((0:Int)<=o)then
  FN k go2 o W O i1 U a2 a3 ((i1==(List.length O:Int))&&(o==(List.length U:Int)))
 else
  go1 (ai (i1-(1:Int))) a2 a3 W
def mW(k:Nat)(o:List (Int))(i1:Int)(O:List (Int))(a2:List (List UInt8))(a3:List av)(go1:Int->aS->aN->bE->Option bE):Nat->Int->bE->Option bE
 |0,_,_=>none
 |n+1,U,W=>zo k o i1 O a2 a3 go1 (mW k o i1 O a2 a3 go1 n) U W
def y8(k:Nat)(U:List (Int))(o:List (Int))(go1:Int->aS->aN->bE->Option bE)(i1:Int)(a2:List (List UInt8))(a3:List av)(O:bE):Option bE:=
 if decide ((0:Int)<=i1)then
  mW k U i1 o a2 a3 go1 k (List.length o:Int) O
 else
  some O
def mK(k:Nat)(o:List (Int))(O:List (Int)):Nat->Int->aS->aN->bE->Option bE
 |0,_,_,_,_=>none
 |n+1,i1,a2,a3,U=>y8 k o O (mK k o O n) i1 a2 a3 U
def qc(k:Nat)(U:aV)(o:List (Int))(O:List (Int)):Option bE:=
 Option.bind (aG (0<=(List.length o:Int)/\(List.length o:Int)<(65:Int))) fun _=>
 Option.bind (aG (0<=(List.length O:Int)/\(List.length O:Int)<(65:Int))) fun _=>
 Option.bind (ao (List.replicate 65 (List.replicate 65 (0:Int))) (List.length o:Int)) fun W=>
 Option.bind (ao W (List.length O:Int)) fun Y=>
 mK k o O k (List.length o:Int) U.1 U.2.1 (o,O,(List.replicate 65 (List.replicate 65 (0:Int))),List.set (List.replicate 65 (List.replicate 65 (0:Int))) ((List.length o:Int)).toNat (List.set W ((List.length O:Int)).toNat (1:Int)),())
def r5(k:Nat)(o:aV)(O:List UInt8)(U:List UInt8):Option (Sum Int EC):=
 Option.bind (gS k (o.1,o.2.1,()) O) fun v1=>
 if v1.2 !=(0:Int)then
  some (.inl v1.2)
 else
  (
   Option.bind (gS k (o.1,o.2.1,()) U) fun v2=>
   if v2.2 !=(0:Int)then
    some (.inl v2.2)
   else
    (
     Option.bind (qc k (o.1,o.2.1,()) v1.1 v2.1) fun v3=>
     some (.inr ((0:Int),v3))
    )
  )
def DV(t1:bE)(i1:Int)(l1:List cz)(go1:Int->Int->bA->Option bA)(o:Int)(t5:Bool):Option bA:=
 if t5 then
  (
   Option.bind (ao t1.1 i1) fun O=>
   Option.bind (aG (List.length l1+List.length ([(O,(0:Int),())]:List cz)<=lim)) fun _=>
   go1 (ai (i1+(1:Int))) o (l1++([(O,(0:Int),())]:List cz))
  )
 else
  (
   Option.bind (ao t1.2.1 o) fun U=>
   Option.bind (aG (List.length l1+List.length ([((0:Int),U,())]:List cz)<=lim)) fun _=>
   go1 i1 (ai (o+(1:Int))) (l1++([((0:Int),U,())]:List cz))
  )
def zX(t1:bE)(i1:Int)(o:Int)(l1:List cz)(go1:Int->Int->bA->Option bA)(W:Int)(t4:Bool):Option bA:=
 if t4 then
  (
   Option.bind (ao t1.1 i1) fun O=>
   Option.bind (ao t1.2.1 o) fun U=>
   Option.bind (aG (List.length l1+List.length ([(O,U,())]:List cz)<=lim)) fun _=>
   go1 (ai (i1+(1:Int))) (ai (o+(1:Int))) (l1++([(O,U,())]:List cz))
  )
 else
  (
   if decide (i1<(List.length t1.1:Int))then
    (
     Option.bind (ao t1.2.2.1 (ai (i1+(1:Int)))) fun Y=>
     Option.bind (ao Y o) fun Z=>
     DV t1 i1 l1 go1 o (W==(ai ((5:Int)+Z)))
    )
   else
    DV t1 i1 l1 go1 o false
  )
def Ph(k:Nat)(t1:bE)(i1:Int)(o:Int)(U:aV)(l1:List cz)(go1:Int->Int->bA->Option bA)(O:Int)(t3:Bool):Option bA:=
 if t3 then
  (
   Option.bind (ao t1.1 i1) fun W=>
   Option.bind (ao t1.2.1 o) fun Y=>
   Option.bind (jn k (U.1,U.2.1,()) W Y) fun v1=>
   Option.bind (ao t1.2.2.1 (ai (i1+(1:Int)))) fun Z=>
   Option.bind (ao Z (ai (o+(1:Int)))) fun la=>
   zX t1 i1 o l1 go1 O (O==(ai (v1+la)))
  )
 else
  zX t1 i1 o l1 go1 O false
def RL(k:Nat)(t1:bE)(i1:Int)(o:Int)(O:aV)(l1:List cz)(go1:Int->Int->bA->Option bA)(t2:Bool):Option bA:=
 if t2 then
  (
   Option.bind (ao t1.2.2.1 i1) fun U=>
   Option.bind (ao U o) fun W=>
   Ph k t1 i1 o O l1 go1 W (decide (i1<(List.length t1.1:Int))&&(decide (o<(List.length t1.2.1:Int))))
  )
 else
  some (l1)
def UL(k:Nat)(t1:bE)(O:aV)(go1:Int->Int->bA->Option bA)(i1:Int)(o:Int)(l1:List cz):Option bA:=
 RL k t1 i1 o O l1 go1 (decide (i1<(List.length t1.1:Int))||(decide (o<(List.length t1.2.1:Int))))
def BV(k:Nat)(t1:bE)(o:aV):Nat->Int->Int->bA->Option bA
 |0,_,_,_=>none
 |n+1,i1,O,l1=>UL k t1 o (BV k t1 o n) i1 O l1
def NH(k:Nat)(t1:bE)(o:aV):Option bA:=
 BV k t1 o k (0:Int) (0:Int) ([]:List cz)
def rO(O:bE)(i1:Int)(l2:List cz)(go1:Int->Int->bA->Option bA)(o:Int)(t4:Bool):Option bA:=
 if t4 then
  (
   Option.bind (ao O.1 i1) fun U=>
   Option.bind (aG (List.length l2+List.length ([(U,(0:Int),())]:List cz)<=lim)) fun _=>
   go1 (ai (i1+(1:Int))) o (l2++([(U,(0:Int),())]:List cz))
  )
 else
  (
   Option.bind (ao O.2.1 o) fun W=>
   Option.bind (aG (List.length l2+List.length ([((0:Int),W,())]:List cz)<=lim)) fun _=>
   go1 i1 (ai (o+(1:Int))) (l2++([((0:Int),W,())]:List cz))
  )
def pD(O:bE)(i1:Int)(o:Int)(l2:List cz)(go1:Int->Int->bA->Option bA)(Y:Int)(t3:Bool):Option bA:=
 if t3 then
  (
   Option.bind (ao O.1 i1) fun U=>
   Option.bind (ao O.2.1 o) fun W=>
   Option.bind (aG (List.length l2+List.length ([(U,W,())]:List cz)<=lim)) fun _=>
   go1 (ai (i1+(1:Int))) (ai (o+(1:Int))) (l2++([(U,W,())]:List cz))
  )
 else
  (
   if decide (i1<(List.length O.1:Int))then
    (
     Option.bind (aG (0<=(ai (i1+(1:Int)))/\(ai (i1+(1:Int)))<(65:Int))) fun _=>
     Option.bind (aG (0<=o/\o<(65:Int))) fun _=>
     Option.bind (ao O.2.2.1 (ai (i1+(1:Int)))) fun Z=>
     Option.bind (ao Z o) fun la=>
     rO O i1 l2 go1 o (Y==(ai ((5:Int)+la)))
    )
   else
    rO O i1 l2 go1 o false
  )
def JN(k:Nat)(O:bE)(i1:Int)(o:Int)(W:aV)(l2:List cz)(go1:Int->Int->bA->Option bA)(U:Int)(t2:Bool):Option bA:=
 if t2 then
  (
   Option.bind (ao O.1 i1) fun Y=>
   Option.bind (ao O.2.1 o) fun Z=>
   Option.bind (jn k (W.1,W.2.1,()) Y Z) fun v1=>
   Option.bind (aG (0<=(ai (i1+(1:Int)))/\(ai (i1+(1:Int)))<(65:Int))) fun _=>
   Option.bind (aG (0<=(ai (o+(1:Int)))/\(ai (o+(1:Int)))<(65:Int))) fun _=>
   Option.bind (ao O.2.2.1 (ai (i1+(1:Int)))) fun la=>
   Option.bind (ao la (ai (o+(1:Int)))) fun lc=>
   pD O i1 o l2 go1 U (U==(ai (v1+lc)))
  )
 else
  pD O i1 o l2 go1 U false
def IR(k:Nat)(i1:Int)(o:Int)(O:bE)(U:aV)(l2:List cz)(go1:Int->Int->bA->Option bA)(t1:Bool):Option bA:=
 if t1 then
  (
   Option.bind (aG (0<=i1/\i1<(65:Int))) fun _=>
   Option.bind (aG (0<=o/\o<(65:Int))) fun _=>
   Option.bind (ao O.2.2.1 i1) fun W=>
   Option.bind (ao W o) fun Y=>
   JN k O i1 o U l2 go1 Y (decide (i1<(List.length O.1:Int))&&(decide (o<(List.length O.2.1:Int))))
  )
 else
  some l2
def Lc(k:Nat)(o:bE)(U:aV)(go1:Int->Int->bA->Option bA)(i1:Int)(O:Int)(l2:List cz):Option bA:=
 IR k i1 O o U l2 go1 (decide (i1<(List.length o.1:Int))||(decide (O<(List.length o.2.1:Int))))
def nY(k:Nat)(o:bE)(O:aV):Nat->Int->Int->bA->Option bA
 |0,_,_,_=>none
 |n+1,i1,U,l2=>Lc k o O (nY k o O n) i1 U l2
def pA(k:Nat)(o:aV)(O:bE):Option bA:=
 nY k O o k (0:Int) (0:Int) ([]:List cz)
def mc(k:Nat)(o:aV)(O:List UInt8)(U:List UInt8):Option (Int×List cz×Int):=
 Option.bind (r5 k (o.1,o.2.1,()) O U) fun v1=>qq v1 (fun v2=>
  if v2 !=(0:Int)then
   some ((0:Int),([]:List cz),v2)
  else
   none
 ) fun v3=>
 if v3.1 !=(0:Int)then
  some ((0:Int),([]:List cz),v3.1)
 else
  (
   Option.bind (aG (0<=(0:Int)/\(0:Int)<(65:Int))) fun _=>
   Option.bind (aG (0<=(0:Int)/\(0:Int)<(65:Int))) fun _=>
   Option.bind (ao v3.2.2.2.1 (0:Int)) fun W=>
   Option.bind (ao W (0:Int)) fun Y=>
   Option.bind (pA k (o.1,o.2.1,()) v3.2) fun v4=>
   some (Y,v4,(0:Int))
  )
def Ou(k:Nat)(l1:List aS)(O:aV)(go1:Int->nq->Option w0)(t1:Int)(o:List bA):Option w0:=
 if decide (t1<(List.length l1:Int))then
  (
   Option.bind (ao l1 t1) fun U=>
   Option.bind (aG (0<=(0:Int)/\(0:Int)<(2:Int))) fun _=>
   Option.bind (ao U (0:Int)) fun W=>
   Option.bind (aG (0<=(1:Int)/\(1:Int)<(2:Int))) fun _=>
   Option.bind (ao U (1:Int)) fun Y=>
   Option.bind (mc k (O.1,O.2.1,()) W Y) fun v2=>
   if v2.2.2 !=(0:Int)then
    some (([]:List bA),v2.2.2)
   else
    (
     Option.bind (aG (List.length o+List.length ([v2.2.1]:List bA)<=lim)) fun _=>
     go1 (ai (t1+(1:Int))) (o++([v2.2.1]:List bA))
    )
  )
 else
  some (o,(0:Int))
def Em(k:Nat)(l1:List aS)(o:aV):Nat->Int->nq->Option w0
 |0,_,_=>none
 |n+1,t1,O=>Ou k l1 o (Em k l1 o n) t1 O
def Ib(k:Nat)(o:aV)(l1:List aS):Option w0:=
 Option.bind (fL k (o.1,o.2.1,())) fun v1=>
 if v1 !=(0:Int)then
  some (([]:List bA),v1)
 else
  (
   if decide ((4096:Int)<(List.length l1:Int))then
    some (([]:List bA),(4:Int))
   else
    Em k l1 o k (0:Int) ([]:List bA)
  )
def r7(k:Nat)(m1:List gZ):Option Unit:=
 some ()
def C9(O:List cz)(go1:Int->aS->aN->iq->Option fZ)(t1:Int)(a2:List (List UInt8))(a3:List av)(go2:Int->iq->Option fZ)(t2:Int)(m2:List gZ):Option fZ:=
 if decide (t2<(List.length O:Int))then
  (
   Option.bind (ao O t2) fun o=>
   go2 (ai (t2+(1:Int))) (cb (aD dU) m2 (o.1,o.2.1,()) (ai (((bn (aD dU) m2 (o.1,o.2.1,())).getD (0:Int))+(1:Int))))
  )
 else
  go1 (ai (t1+(1:Int))) a2 a3 m2
def oK(o:List cz)(go1:Int->aS->aN->iq->Option fZ)(t1:Int)(a2:List (List UInt8))(a3:List av):Nat->Int->iq->Option fZ
 |0,_,_=>none
 |n+1,t2,m2=>C9 o go1 t1 a2 a3 (oK o go1 t1 a2 a3 n) t2 m2
def Cr(v2:List cz)(m1:List gZ)(U:Int->fZ->Option fZ)(t4:Int)(O:List eN):Option fZ:=
 if decide (t4<(List.length v2:Int))then
  (
   Option.bind (ao v2 t4) fun o=>
   Option.bind (aG (List.length O+List.length ([((o.1,o.2.1,()),(bn (aD dU) m1 (o.1,o.2.1,())).getD (0:Int),())]:List eN)<=lim)) fun _=>
   U (ai (t4+(1:Int))) (O++([((o.1,o.2.1,()),(bn (aD dU) m1 (o.1,o.2.1,())).getD (0:Int),())]:List eN))
  )
 else
  some (O)
def oh(v2:List cz)(m1:List gZ):Nat->Int->fZ->Option fZ
 |0,_,_=>none
 |n+1,t4,o=>Cr v2 m1 (oh v2 m1 n) t4 o
def Bl(k:Nat)(a3:List av)(m1:List gZ)(o:Int->gq->Option fZ)(t3:Int)(m3:List (Int×Int)):Option fZ:=
 if decide (t3<(List.length a3:Int))then
  (
   Option.bind (ao a3 t3) fun O=>
   o (ai (t3+(1:Int))) (cb (aD (.int .i32)) m3 O.1 (ai (t3+(1:Int))))
  )
 else
  (
   Option.bind (r7 k m1) fun v1=>
   Option.bind (k8 k m1 m3) fun v2=>
   oh v2 m1 k (0:Int) ([]:List eN)
  )
def mP(k:Nat)(a3:List av)(m1:List gZ):Nat->Int->gq->Option fZ
 |0,_,_=>none
 |n+1,t3,m3=>Bl k a3 m1 (mP k a3 m1 n) t3 m3
def zM(k:Nat)(l1:List bA)(go1:Int->aS->aN->iq->Option fZ)(t1:Int)(a2:List (List UInt8))(a3:List av)(m1:List gZ):Option fZ:=
 if decide (t1<(List.length l1:Int))then
  (
   Option.bind (ao l1 t1) fun o=>
   oK o go1 t1 a2 a3 k (0:Int) m1
  )
 else
  mP k a3 m1 k (0:Int) ([]:List (Int×Int))
def o6(k:Nat)(l1:List bA):Nat->Int->aS->aN->iq->Option fZ
 |0,_,_,_,_=>none
 |n+1,t1,a2,a3,m1=>zM k l1 (o6 k l1 n) t1 a2 a3 m1
def rE(k:Nat)(o:aV)(l1:List bA):Option fZ:=
 o6 k l1 k (0:Int) o.1 o.2.1 ([]:List gZ)
def I9(k:Nat)(o:aV)(l1:List aS):Option jW:=
 Option.bind (Ib k (o.1,o.2.1,()) l1) fun v1=>
 if v1.2 !=(0:Int)then
  some (([]:List eN),v1.2)
 else
  (
   Option.bind (rE k (o.1,o.2.1,()) v1.1) fun v2=>
   some (v2,(0:Int))
  )
def zb(k:Nat)(o:Int)(O:Int)(U:Int):Option ((Int×Int×Unit)×Int×Unit):=
 some (((o,O,()),U,()))
def EG(t4:Bool):Option Bool:=
 some (t4)
def Bg(k:Nat)(v3:jW)(t3:Bool):Option Bool:=
 if t3 then
  (
   Option.bind (ao v3.1 (2:Int)) fun o=>
   Option.bind (zb k (112:Int) (0:Int) (1:Int)) fun v4=>
   EG (((kq o.1.1 v4.1.1)&&((kq o.1.2.1 v4.1.2.1)&&(true)))&&((kq o.2.1 v4.2.1)&&(true)))
  )
 else
  EG false
def Fu(k:Nat)(v3:jW)(t2:Bool):Option Bool:=
 if t2 then
  (
   Option.bind (ao v3.1 (1:Int)) fun o=>
   Option.bind (zb k (112:Int) (98:Int) (2:Int)) fun v5=>
   Bg k v3 (((kq o.1.1 v5.1.1)&&((kq o.1.2.1 v5.1.2.1)&&(true)))&&((kq o.2.1 v5.2.1)&&(true)))
  )
 else
  Bg k v3 false
def RV(k:Nat)(v3:jW)(t1:Bool):Option Bool:=
 if t1 then
  (
   Option.bind (ao v3.1 (0:Int)) fun o=>
   Option.bind (zb k (97:Int) (97:Int) (3:Int)) fun O=>
   Fu k v3 (((kq o.1.1 O.1.1)&&((kq o.1.2.1 O.1.2.1)&&(true)))&&((kq o.2.1 O.2.1)&&(true)))
  )
 else
  Fu k v3 false
def Dz(k:Nat):Option Bool:=
 Option.bind (Hh k) fun v1=>
 Option.bind (K9 k) fun v2=>
 Option.bind (I9 k v1 v2) fun v3=>
 RV k v3 ((v3.2==(0:Int))&&((List.length v3.1:Int)==(3:Int)))
def wb(go1:Int->Option Bool)(i1:Int)(t4:Bool):Option Bool:=
 if t4 then
  some (true)
 else
  go1 (ai (i1+(1:Int)))
def FM(l1:List aS)(go1:Int->Option Bool)(i1:Int):Option Bool:=
 if decide (i1<(List.length l1:Int))then
  (
   Option.bind (ao l1 i1) fun o=>
   Option.bind (ao o (0:Int)) fun O=>
   if decide ((1000:Int)<(List.length O:Int))then
    wb go1 i1 true
   else
    (
     Option.bind (ao o (1:Int)) fun U=>
     wb go1 i1 (decide ((1000:Int)<(List.length U:Int)))
    )
  )
 else
  some (false)
def uk(l1:List aS):Nat->Int->Option Bool
 |0,_=>none
 |n+1,i1=>FM l1 (uk l1 n) i1
def Gr(k:Nat)(l1:List aS)(t3:Bool):Option Bool:=
 if t3 then
  some (true)
 else
  uk l1 k (0:Int)
def xG(k:Nat)(l1:List aS)(t2:Bool):Option Bool:=
 Gr k l1 (t2||(decide ((5000:Int)<(List.length l1:Int))))
def LZ(k:Nat)(l1:List aS)(t5:Bool):Option Bool:=
 xG k l1 t5
def LR(k:Nat)(l1:List aS)(t1:Bool):Option Bool:=
 if t1 then
  xG k l1 true
 else
  LZ k l1 (decide ((40:Int)<(List.length l1:Int))&&(decide ((List.length l1:Int)<=(4096:Int))))
def uJ(k:Nat)(o:aV)(l1:List aS):Option Bool:=
 LR k l1 (decide ((300:Int)<(List.length o.2.1:Int))||(decide ((60:Int)<(List.length o.1:Int))))
end Go.Ev
