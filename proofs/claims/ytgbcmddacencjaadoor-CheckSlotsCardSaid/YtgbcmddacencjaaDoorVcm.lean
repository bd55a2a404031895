import Derived.Test.YtgbcmddacencjaaDoorVam
import Derived.LoopN
set_option linter.unusedSimpArgs false
set_option linter.unusedVariables false
namespace Go.SL
open Go.RowKit
structure S where
 fr:List (Nat × AV)
 hp:List (Nat × Blk)
 nx:Nat
def S.st (s:S):St:=⟨lk s.fr,lkh s.hp,s.nx⟩
def putL (L:List (Nat × AV)):Option Tmp→AV→List (Nat × AV)
 | some d,v=>(d,v) :: L
 | none,_=>L
theorem putL_lk (L:List (Nat × AV)) (d:Option Tmp) (v:AV):lk (putL L d v) = putO (lk L) d v:=by
 cases d <;> rfl
abbrev PC:=FuncId→List AV→(Nat→Option Blk)→Option (AV × List Cnd × List (Nat × Option Blk) × List (Nat × Option Blk))
def PCOK (P:Program) (pc:PC):Prop:=∀ f args hm v c hs set,pc f args hm = some (v,c,hs,set)→AllT c→CROK P ⟨f,args,hs,v,set⟩∧∀ x ∈ hs,hm x.1 = x.2
theorem PureT.cr {P:Program} {f:FuncId} {args:List AV} {v:AV} (hv:ltN 0 v = true) (h:PureT P f args v):CROK P ⟨f,args,[],v,[]⟩:=CROK.of (nbT_nil _ _) ⟨hv,by simp,fun hm nx _=>h hm nx⟩
abbrev OV:=List (Nat × AV)
def fixV (ov:OV) (d:Option Tmp) (v:AV):AV × List Cnd × OV :=
 match ov,d with
 | (t,c) :: r,some d=>if t = d then (c,[.p (v = c)],r) else (v,[],(t,c) :: r)
 | ov,_=>(v,[],ov)
theorem fixV_ok {ov:OV} {d:Option Tmp} {v:AV} (h:AllT (fixV ov d v).2.1):(fixV ov d v).1 = v:=by
 unfold fixV at h ⊢
 split
 ·rename_i t c r d
  simp only at h
  split
  ·rename_i e
   rw [if_pos e] at h
   exact h.1.symm
  ·rfl
 ·rfl
def stepS (T:Tab) (sym:Bool) (pc:PC) (N:Nat) (ops:Array Oper) (o:Oper) (s:S) (ov:OV):Option (S × List Cnd × OV) :=
 match guardAV ops (lk s.fr) o,dstOK N o.dst with
 | some true,true=>match evC T sym o.op (opd (lk s.fr)) (lkh s.hp) s.nx with
  | some (out,b)=>some (⟨putL s.fr o.dst (fixV ov o.dst out.v).1,applyH s.hp out.set,s.nx + out.n⟩,(fixV ov o.dst out.v).2.1 ++ b,(fixV ov o.dst out.v).2.2)
  | none=>match o.op with
   | .call c=>match callee (opd (lk s.fr)) c with
    | some (f,args)=>match pc f args (lkh s.hp) with
     | some (v,b,hs,set)=>some (⟨putL s.fr o.dst (fixV ov o.dst (vT v hs set s.nx)).1,applyH s.hp (setT v hs set s.nx),s.nx + nT v hs set⟩,(fixV ov o.dst (vT v hs set s.nx)).2.1 ++ b,(fixV ov o.dst (vT v hs set s.nx)).2.2)
     | none=>none
    | none=>none
   | _=>none
 | some false,true=>some (⟨putL s.fr o.dst (.tuple []),s.hp,s.nx⟩,[],ov)
 | _,_=>none
def child (b:Nat):Code→Option Code
 | .seq x y=>if b = 0 then some x else some y
 | .cond _ x y=>if b = 0 then some x else some y
 | .block _ x=>if b = 0 then some x else none
 | .loop x=>if b = 0 then some x else none
 | .scope x=>if b = 0 then some x else none
 | _=>none
def codeF:Nat→Nat→Code→Option Code
 | 0,_,_=>none
 | n + 1,p,c=>if p = 1 then some c else (match codeF n (p / 2) c with | some x=>child (p % 2) x | none=>none)
def codeAt (p:Nat) (c:Code):Option Code:=codeF p p c
theorem codeF_fuel (c:Code):∀ (n m p:Nat),1≤p→p≤n→p≤m→codeF n p c = codeF m p c
 | 0,m,p,h1,h2,h3=>by omega
 | n + 1,0,p,h1,h2,h3=>by omega
 | n + 1,m + 1,p,h1,h2,h3=>by
  simp only [codeF]
  by_cases hp:p = 1
  ·rw [if_pos hp,if_pos hp]
  ·rw [if_neg hp,if_neg hp,codeF_fuel c n m (p / 2) (by omega) (by omega) (by omega)]
theorem codeAt_pos {p:Nat} {c x:Code} (h:codeAt p c = some x):1≤p:=by
 cases p with
 | zero=>simp [codeAt,codeF] at h
 | succ p=>omega
theorem codeAt_child {p b:Nat} {c x y:Code} (hb:b < 2) (h:codeAt p c = some x) (hc:child b x = some y):codeAt (2 * p + b) c = some y:=by
 have hp:=codeAt_pos h
 unfold codeAt at h ⊢
 obtain ⟨m,hm⟩:∃ m,2 * p + b = m + 1:=⟨2 * p + b - 1,by omega⟩
 rw [hm]
 simp only [codeF]
 rw [if_neg (by omega),← hm,show (2 * p + b) / 2 = p by omega,show (2 * p + b) % 2 = b by omega,codeF_fuel c m p p hp (by omega) (Nat.le_refl _),h]
 exact hc
inductive It where
 | c (p:Nat) (x:Option Code)
 | b (i:Nat)
 | l (p:Nat) (x:Option Code)
def It.strip:It→It
 | .c p _=>.c p none
 | .b i=>.b i
 | .l p _=>.l p none
inductive Pos where
 | go (stk:List It)
 | op (p k:Nat) (stk:List It)
 | rr (ops:Array Oper) (l:List Oper) (p k:Nat) (stk:List It)
def Pos.strip:Pos→Pos
 | .go r=>.go (r.map It.strip)
 | .op p k r=>.op p k (r.map It.strip)
 | .rr _ _ p k r=>.op p k (r.map It.strip)
def popTo (i:Nat):List It→Option (List It)
 | []=>none
 | .b j :: r=>if i = j then some r else popTo i r
 | .c _ _ :: r=>popTo i r
 | .l _ _ :: r=>popTo i r
def runF (T:Tab) (sym:Bool) (pc:PC) (N:Nat) (ops:Array Oper):List Oper→S→List Cnd→OV→List Foot→Option (List Foot × S × List Cnd × OV)
 | [],s,b,ov,acc=>some (acc.reverse,s,b,ov)
 | o :: l,s,b,ov,acc=>match guardAV ops (lk s.fr) o,dstOK N o.dst with
  | some true,true=>match evC T sym o.op (opd (lk s.fr)) (lkh s.hp) s.nx with
   | some (out,b')=>runF T sym pc N ops l ⟨putL s.fr o.dst (fixV ov o.dst out.v).1,applyH s.hp out.set,s.nx + out.n⟩ ((fixV ov o.dst out.v).2.1 ++ (b' ++ b)) (fixV ov o.dst out.v).2.2 ((mtouch (opd (lk s.fr)) o.op,out.set.map (·.1)) :: acc)
   | none=>match o.op with
    | .call c=>match callee (opd (lk s.fr)) c with
     | some (f,args)=>match pc f args (lkh s.hp) with
      | some (v,b',hs,set)=>runF T sym pc N ops l ⟨putL s.fr o.dst (fixV ov o.dst (vT v hs set s.nx)).1,applyH s.hp (setT v hs set s.nx),s.nx + nT v hs set⟩ ((fixV ov o.dst (vT v hs set s.nx)).2.1 ++ (b' ++ b)) (fixV ov o.dst (vT v hs set s.nx)).2.2 ((hs.map (·.1),(setT v hs set s.nx).map (·.1)) :: acc)
      | none=>none
     | none=>none
    | _=>none
  | some false,true=>runF T sym pc N ops l ⟨putL s.fr o.dst (.tuple []),s.hp,s.nx⟩ b ov (([],[]) :: acc)
  | _,_=>none
def apartB (a b:Foot):Bool:=a.2.all (fun x=>b.1.all (· != x) && b.2.all (· != x)) && b.2.all (fun x=>a.1.all (· != x))
def locB (fs:List Foot):List (Nat × Nat)→Bool
 | []=>true
 | p :: r=>(match fs[p.1]?,fs[p.2]? with | some a,some b=>apartB a b | _,_=>false) && locB fs r
theorem apartB_ok {a b:Foot} (h:apartB a b = true):apart a b:=by
 simp only [apartB,Bool.and_eq_true,List.all_eq_true,bne_iff_ne] at h
 exact h
theorem locB_ok {fs:List Foot}:∀ {l:List (Nat × Nat)},locB fs l = true→locL fs l
 | [],_=>trivial
 | p :: l,h=>by
  simp only [locB,Bool.and_eq_true] at h
  refine ⟨?_,locB_ok h.2⟩
  have h1:=h.1
  split at h1
  ·rename_i a b e1 e2; simp only [e1,e2]; exact apartB_ok h1
  ·simp at h1
def runDr (T:Tab) (sym:Bool) (pc:PC) (N:Nat) (ops:Array Oper) (s:S) (ov:OV):Option (S × List Cnd × OV) :=
 match runF T sym pc N ops ops.toList s [] ov [] with
 | some (fs,s',b,ov')=>if (drawOK ops ops.size && locB fs (meets (ancs ops.toList) 0 ops.toList)) = true then some (s',b,ov') else none
 | none=>none
def resC (x:Option Code) (p:Nat) (body:Code):Option Code:=match x with | some c=>some c | none=>codeAt p body
def seg (T:Tab) (sym:Bool) (pc:PC) (N:Nat) (body:Code):Nat→Pos→S→List Cnd→OV→Option (Pos × S × List Cnd)
 | 0,ps,s,b,_=>some (ps,s,b)
 | n + 1,.go [],s,b,_=>some (.go [],s,b)
 | n + 1,.go (.b i :: r),s,b,ov=>seg T sym pc N body n (.go r) s b ov
 | n + 1,.go (.c p x :: r),s,b,ov=>match resC x p body with
  | some .skip=>seg T sym pc N body n (.go r) s b ov
  | some (.seq x y)=>seg T sym pc N body n (.go (.c (2 * p + 0) (some x) :: .c (2 * p + 1) (some y) :: r)) s b ov
  | some (.region _ ops false)=>seg T sym pc N body n (.rr ops ops.toList p 0 r) s b ov
  | some (.region _ ops true)=>match runDr T sym pc N ops s ov with
   | some (s',b',ov')=>seg T sym pc N body n (.go r) s' (b' ++ b) ov'
   | none=>none
  | some (.cond c x y)=>match opd (lk s.fr) c with
   | some (.bool true)=>seg T sym pc N body n (.go (.c (2 * p + 0) (some x) :: r)) s b ov
   | some (.bool false)=>seg T sym pc N body n (.go (.c (2 * p + 1) (some y) :: r)) s b ov
   | _=>none
  | some (.block i x)=>seg T sym pc N body n (.go (.c (2 * p + 0) (some x) :: .b i :: r)) s b ov
  | some (.loop x)=>seg T sym pc N body n (.go (.c (2 * p + 0) (some x) :: .l p (some (.loop x)) :: r)) s b ov
  | some (.exit i)=>match popTo i r with
   | some r'=>seg T sym pc N body n (.go r') s b ov
   | none=>none
  | _=>none
 | n + 1,.go (.l p x :: r),s,b,ov=>match resC x p body with
  | some (.loop y)=>seg T sym pc N body n (.go (.c (2 * p + 0) (some y) :: .l p (some (.loop y)) :: r)) s b ov
  | _=>none
 | n + 1,.op p k r,s,b,ov=>match codeAt p body with
  | some (.region _ ops false)=>seg T sym pc N body n (.rr ops (ops.toList.drop k) p k r) s b ov
  | _=>none
 | n + 1,.rr ops [] p k r,s,b,ov=>seg T sym pc N body n (.go r) s b ov
 | n + 1,.rr ops (o :: l) p k r,s,b,ov=>match stepS T sym pc N ops o s ov with
  | some (s',b',ov')=>seg T sym pc N body n (.rr ops l p (k + 1) r) s' (b' ++ b) ov'
  | none=>none
def keepH (hs:List Nat) (H:List (Nat × Blk)):List (Nat × Blk) :=
 match hs with
 | []=>[]
 | l :: ls=>match lkh H l with | some B=>(l,B) :: keepH ls H | none=>keepH ls H
def segK (T:Tab) (sym:Bool) (pc:PC) (N:Nat) (body:Code) (n:Nat) (ov:OV) (ts hs:List Nat) (ps:Pos) (s:S):Option (Pos × S × List Cnd) :=
 match seg T sym pc N body n ps s [] ov with
 | some (ps',s',b)=>some (ps'.strip,⟨keepL ts s'.fr,keepH hs s'.hp,s'.nx⟩,b)
 | none=>none
theorem keepH_sub:∀ (hs:List Nat) (H:List (Nat × Blk)) (l:Nat) (B:Blk),lkh (keepH hs H) l = some B→lkh H l = some B
 | [],H,l,B,h=>by simp [keepH,lkh] at h
 | k :: ks,H,l,B,h=>by
  simp only [keepH] at h
  cases e:lkh H k with
  | none=>rw [e] at h; exact keepH_sub ks H l B h
  | some B' =>
   rw [e] at h
   simp only [lkh_get] at h
   by_cases hl:l = k
   ·rw [if_pos hl] at h; simp at h; subst hl h; exact e
   ·rw [if_neg hl] at h; exact keepH_sub ks H l B h
section
variable {P:Program} {E:Env} {N:Nat} {body:Code}
def LoopOK (P:Program) (x:Code) (Q:Exit→Act→World→Prop) (a:Act) (w:World):Prop:=∀ R:Act→World→Prop,(∀ a w,x.wp P (Exit.then R Q) a w→R a w)→R a w
theorem then_mono {R R':Act→World→Prop} {Q:Exit→Act→World→Prop} (h:∀ a w,R a w→R' a w):∀ e a w,Exit.then R Q e a w→Exit.then R' Q e a w:=fun e a w q=>by
 cases e <;> first | exact h _ _ q | exact q
theorem LoopOK.step {x:Code} {Q:Exit→Act→World→Prop} {a:Act} {w:World} (h:x.wp P (Exit.then (LoopOK P x Q) Q) a w):LoopOK P x Q a w:=fun R hR=>hR a w (wp_mono h (then_mono fun a w q=>q R hR))
theorem wp_loopOK {x:Code} {Q:Exit→Act→World→Prop} {a:Act} {w:World} (h:LoopOK P x Q a w):(Code.loop x).wp P Q a w:=by
 have key:=h (fun a w=>∀ (b:Frame) (k:List Item) (cs:List Frame),∃ e a' w',Q e a' w'∧Arrives P (lone (b.at a (.code x :: .inLoop x :: k)) cs w) b k cs e a' w') (by
  intro a w h b k cs
  obtain ⟨e,a₁,w₁,hq,harr⟩:=h b (.inLoop x :: k) cs
  cases e with
  | normal =>
   obtain ⟨e₂,a₂,w₂,hq₂,harr₂⟩:=hq b k cs
   exact ⟨e₂,a₂,w₂,hq₂,.of_steps (Steps.trans harr (.one step_inLoop)) harr₂⟩
  | exit id=>exact ⟨_,a₁,w₁,hq,.pass (x:=.inLoop x) rfl (fun _ _=>.inl (by simp)) harr⟩
  | goto l=>exact ⟨_,a₁,w₁,hq,.pass (x:=.inLoop x) rfl (fun _ _=>.inl (by simp)) harr⟩
  | ret=>exact ⟨_,a₁,w₁,hq,.pass (x:=.inLoop x) rfl (fun _ _=>.inl (by simp)) harr⟩
  | panic ch=>exact ⟨_,a₁,w₁,hq,.pass (x:=.inLoop x) rfl (fun _ _=>.inl (by simp)) harr⟩
  | outgrown=>exact ⟨_,a₁,w₁,hq,.pass (x:=.inLoop x) rfl (fun _ _=>.inl (by simp)) harr⟩)
 intro b k cs
 obtain ⟨e,a',w',hq,harr⟩:=key b k cs
 exact ⟨e,a',w',hq,.of_steps (.one step_loop) harr⟩
def KK (P:Program) (E:Env) (N:Nat) (body:Code):List It→(Ex→St→Prop)→Ex→St→Prop
 | [],K=>K
 | .c p _ :: r,K=>fun e s=>match e with
  | .normal=>(match codeAt p body with | some c=>AW P E N c s (KK P E N body r K) | none=>False)
  | e=>KK P E N body r K e s
 | .b i :: r,K=>blockK i (KK P E N body r K)
 | .l p _ :: r,K=>fun e s=>match e with
  | .normal=>(match codeAt p body with | some (.loop x)=>∀ g a w,Sm P E N s g a w→LoopOK P x (Post P E N (KK P E N body r K)) a w | _=>False)
  | e=>KK P E N body r K e s
def GO (P:Program) (E:Env) (N:Nat) (body:Code):Pos→S→(Ex→St→Prop)→Prop
 | .go r,s,K=>∀ g a w,Sm P E N s.st g a w→Post P E N (KK P E N body r K) .normal a w
 | .op p k r,s,K=>match codeAt p body with
  | some (.region _ ops false)=>RW P E N ops (ops.toList.drop k) s.st (KK P E N body r K)
  | _=>False
 | .rr ops l p k r,s,K=>RW P E N ops l s.st (KK P E N body r K)
theorem KK_strip (K:Ex→St→Prop):∀ (r:List It),KK P E N body (r.map It.strip) K = KK P E N body r K
 | []=>rfl
 | .c p x :: r=>by simp only [List.map_cons,It.strip,KK,KK_strip K r]
 | .b i :: r=>by simp only [List.map_cons,It.strip,KK,KK_strip K r]
 | .l p x :: r=>by simp only [List.map_cons,It.strip,KK,KK_strip K r]
variable {K:Ex→St→Prop} {s s':S}
theorem post_normal {K:Ex→St→Prop} {a:Act} {w:World} (h:Post P E N K .normal a w):∃ s g,K .normal s∧Sm P E N s g a w:=by
 obtain ⟨x,s,g,h1,h2,h3⟩:=h
 cases x <;> first | exact ⟨s,g,h2,h3⟩ | exact h1.elim
theorem aw_post {c:Code} {s:St} {K:Ex→St→Prop} (h:∀ g a w,Sm P E N s g a w→∃ s1 g1,AW P E N c s1 K∧Sm P E N s1 g1 a w):AW P E N c s K:=fun g a w hs=>by
 obtain ⟨s1,g1,h1,h2⟩:=h g a w hs
 exact h1 g1 a w h2
theorem go_aw {p:Nat} {x:Option Code} {r:List It} {c:Code} (hc:codeAt p body = some c):GO P E N body (.go (.c p x :: r)) s K ↔ AW P E N c s.st (KK P E N body r K):=by
 constructor
 ·intro h
  refine aw_post fun g a w hs=>?_
  obtain ⟨s1,g1,h1,h2⟩:=post_normal (h g a w hs)
  simp only [KK,hc] at h1
  exact ⟨s1,g1,h1,h2⟩
 ·intro h g a w hs
  exact ⟨.normal,s.st,g,trivial,by simp only [KK,hc]; exact h,hs⟩
theorem aw_monoP {c:Code} {s:St} {K K':Ex→St→Prop} (h:AW P E N c s K) (hk:∀ e a w,Post P E N K e a w→Post P E N K' e a w):AW P E N c s K':=fun g a w hs=>wp_mono (h g a w hs) hk
theorem seqK_post {c:Code} {p:Nat} {x:Option Code} {r:List It} (hc:codeAt p body = some c):seqK P E N c (KK P E N body r K) = KK P E N body (.c p x :: r) K:=by
 funext e s
 cases e <;> simp only [seqK,KK,hc]
def Good (body:Code):List It→Prop
 | []=>True
 | .c p (some c) :: r=>codeAt p body = some c∧Good body r
 | .c _ none :: r=>Good body r
 | .b _ :: r=>Good body r
 | .l p (some c) :: r=>codeAt p body = some c∧Good body r
 | .l _ none :: r=>Good body r
def GoodP (body:Code):Pos→Prop
 | .go r=>Good body r
 | .op _ _ r=>Good body r
 | .rr ops l p k r=>(∃ id,codeAt p body = some (.region id ops false))∧l = ops.toList.drop k∧Good body r
theorem Good.pop {i:Nat}:∀ {r r':List It},Good body r→popTo i r = some r'→Good body r'
 | [],r',h,e=>by simp [popTo] at e
 | .c p (some c) :: r,r',h,e=>Good.pop h.2 (by simpa [popTo] using e)
 | .c p none :: r,r',h,e=>Good.pop (r:=r) h (by simpa [popTo] using e)
 | .l p (some c) :: r,r',h,e=>Good.pop h.2 (by simpa [popTo] using e)
 | .l p none :: r,r',h,e=>Good.pop (r:=r) h (by simpa [popTo] using e)
 | .b j :: r,r',h,e=>by
  simp only [popTo] at e
  split at e
  ·simp at e; subst e; exact h
  ·exact Good.pop (r:=r) h e
theorem go_strip {ps:Pos} (hg:GoodP body ps) (h:GO P E N body ps.strip s K):GO P E N body ps s K:=by
 cases ps with
 | go r=>simpa only [Pos.strip,GO,KK_strip] using h
 | op p k r=>simpa only [Pos.strip,GO,KK_strip] using h
 | rr ops l p k r =>
  obtain ⟨⟨id,hc⟩,hl,_⟩:=hg
  simp only [Pos.strip,GO,KK_strip,hc] at h
  subst hl
  exact h
theorem post_exit {i:Nat} {a:Act} {w:World}:∀ {r r':List It},popTo i r = some r'→Post P E N (KK P E N body r' K) .normal a w→Post P E N (KK P E N body r K) (.exit i) a w
 | [],r',h,_=>by simp [popTo] at h
 | .c p x :: r,r',h,hp=>by
  have:=post_exit (r:=r) (by simpa [popTo] using h) hp
  obtain ⟨e,s,g,h1,h2,h3⟩:=this
  refine ⟨e,s,g,h1,?_,h3⟩
  cases e <;> first | exact h1.elim | skip
  exact h2
 | .l p x :: r,r',h,hp=>by
  have:=post_exit (r:=r) (by simpa [popTo] using h) hp
  obtain ⟨e,s,g,h1,h2,h3⟩:=this
  refine ⟨e,s,g,h1,?_,h3⟩
  cases e <;> first | exact h1.elim | skip
  exact h2
 | .b j :: r,r',h,hp=>by
  simp only [popTo] at h
  split at h
  ·rename_i e
   subst e
   simp at h; subst h
   obtain ⟨s,g,h2,h3⟩:=post_normal hp
   exact ⟨.exit i,s,g,rfl,by simp only [KK,blockK,if_pos]; exact h2,h3⟩
  ·rename_i e
   have:=post_exit (r:=r) h hp
   obtain ⟨e',s,g,h1,h2,h3⟩:=this
   refine ⟨e',s,g,h1,?_,h3⟩
   cases e' <;> first | exact h1.elim | skip
   rename_i i'
   have:i' = i:=h1
   subst this
   simp only [KK,blockK]
   rw [if_neg e]; exact h2
theorem go_block {i:Nat} {r:List It} (h:GO P E N body (.go r) s K):GO P E N body (.go (.b i :: r)) s K:=fun g a w hs=>by
 obtain ⟨s1,g1,h1,h2⟩:=post_normal (h g a w hs)
 exact ⟨.normal,s1,g1,trivial,by simp only [KK,blockK]; exact h1,h2⟩
theorem callee_noev {T:Tab} {sym:Bool} {c:Call} {ρ:Operand→Option AV} {hm:Nat→Option Blk} {id:Nat} {x:FuncId × List AV} (hT:T = Tab.of P) (h:evC T sym (.call c) ρ hm id = none) (hc:callee ρ c = some x):evOp P (.call c) ρ hm id = none:=by
 subst hT
 obtain ⟨cal,args,ts⟩:=c
 cases cal with
 | value y =>
  cases y with
  | func f =>
   have k4:(Tab.of P).ne f = noEsc P f:=rfl
   simp only [evC,k4] at h
   simp only [evOp]
   split
   ·rename_i hn
    rw [if_pos hn] at h
    split at h
    ·simp at h
    ·rename_i e
     split
     ·rename_i v e'; exact absurd e' (e v)
     ·rfl
   ·rfl
  | _=>simp [evOp]
 | _=>simp [callee] at hc
theorem Sm.fresh {s:St} {g:G} {a:Act} {w:World} (h:Sm P E N s g a w):∀ l,s.nx≤l→g.μ l = none:=fun l hl=>h.sim.mem.fresh l (.inl hl)
theorem Sm.ltF {s:St} {g:G} {a:Act} {w:World} (h:Sm P E N s g a w) {t:Nat} {v:AV} (e:s.fr t = some v):SL.ltN s.nx v = true:=by
 obtain ⟨x,_,hv⟩:=h.sim.fr t v e
 exact hv.ltN h.fresh
theorem Sm.ltH {s:St} {g:G} {a:Act} {w:World} (h:Sm P E N s g a w) {l:Nat} {B:Blk} (e:s.hm l = some B):l < s.nx∧ltNB s.nx B = true:=(h.sim.mem.blk l B e).ltN h.fresh
theorem RW.reg {ops:Array Oper} {l:List Oper} {s1 s2:St} {ρ:Nat→Nat} {K:Ex→St→Prop} (h:RW P E N ops l s1 K) (r:Ren E.n0 ρ s2 s1):RW P E N ops l s2 K:=fun g a w hs=>by
 obtain ⟨g',hs'⟩:=hs.reg r
 exact h g' a w hs'
theorem rw_det {ops:Array Oper} {o:Oper} {l:List Oper} {c:Call} {f:FuncId} {args:List AV} {v:AV} {hs set:List (Nat × Option Blk)} {s:S} (ho:o.op = .call c) (hg:guardAV ops (lk s.fr) o = some true) (hd:dstOK N o.dst = true) (hc:callee (opd (lk s.fr)) c = some (f,args)) (h:CROK P ⟨f,args,hs,v,set⟩) (hhs:∀ x ∈ hs,lkh s.hp x.1 = x.2)
  (hr:RW P E N ops l ⟨lk (putL s.fr o.dst (vT v hs set s.nx)),lkh (applyH s.hp (setT v hs set s.nx)),s.nx + nT v hs set⟩ K):RW P E N ops (o :: l) s.st K:=fun g a w hsm=>by
 unfold CROK at h
 split at h
 ·rename_i B hnb
  have hnb:nbT v hs set = some B:=hnb
  have e1:vT v hs set s.nx = .map s.nx:=by simp only [vT,hnb]
  have e2:setT v hs set s.nx = [(s.nx,some B)]:=by simp only [setT,hnb]
  have e3:nT v hs set = 1:=by simp only [nT,hnb]
  rw [e1,e2,e3] at hr
  obtain ⟨hB,_,hT⟩:=h
  refine rw_call (s:=s.st) ho hg hd hc ((hT (lkh s.hp) s.nx).mono fun r hm' nx' hn hq=>?_) g a w hsm
  obtain ⟨rfl,rfl⟩:=hq
  show RW P E N ops l ⟨putO (lk s.fr) o.dst (.map s.nx),upd (lkh s.hp) s.nx (some B),nx'⟩ K
  have e4:(⟨putO (lk s.fr) o.dst (.map s.nx),upd (lkh s.hp) s.nx (some B),nx'⟩:St) = ⟨lk (putL s.fr o.dst (.map s.nx)),lkh (applyH s.hp [(s.nx,some B)]),nx'⟩:=by rw [putL_lk,lkh_apply]; rfl
  rw [e4]
  refine hr.reg (ρ:=fun l=>l) ⟨Nat.le_succ_of_le hsm.nx,fun _ _=>rfl,fun _ _ _ _ _ _ e=>e,fun t u e=>⟨?_,u,e,by rw [ren_id]; exact Le.refl u⟩,fun k C e=>?_⟩
  ·show ltN (s.nx + 1) u = true
   have e':lk (putL s.fr o.dst (.map s.nx)) t = some u:=e
   rw [putL_lk] at e'
   cases hd':o.dst with
   | none=>rw [hd'] at e'; exact ltN_mono (Nat.le_succ _) _ (hsm.ltF (t:=t) e')
   | some d =>
    rw [hd'] at e'
    simp only [putO,upd] at e'
    split at e'
    ·simp at e'; subst e'; simp [ltN]
    ·exact ltN_mono (Nat.le_succ _) _ (hsm.ltF (t:=t) e')
  ·have e':lkh (applyH s.hp [(s.nx,some B)]) k = some C:=e
   rw [lkh_apply] at e'
   rcases applyS_cases e' with h1 | ⟨h1,_⟩
   ·simp at h1
    obtain ⟨rfl,rfl⟩:=h1
    exact ⟨Nat.lt_succ_self _,by
     cases C with
     | row ty cs=>exact ltNL_mono (Nat.zero_le _) cs hB
     | mp es =>
      refine ltNE_of fun j k v e=>?_
      have:=ltNE_get hB e
      exact ⟨ltN_mono (Nat.zero_le _) _ this.1,ltN_mono (Nat.zero_le _) _ this.2⟩,C,e,by rw [renB_id]; exact LeB.refl C⟩
   ·have:=hsm.ltH (l:=k) (B:=C) h1
    exact ⟨Nat.lt_succ_of_lt this.1,by
     cases C with
     | row ty cs=>exact ltNL_mono (Nat.le_succ _) cs this.2
     | mp es =>
      refine ltNE_of fun j k v e=>?_
      have:=ltNE_get this.2 e
      exact ⟨ltN_mono (Nat.le_succ _) _ this.1,ltN_mono (Nat.le_succ _) _ this.2⟩,C,e,by rw [renB_id]; exact LeB.refl C⟩
 rename_i hnb
 have hnb:nbT v hs set = none:=hnb
 have e1:vT v hs set s.nx = v:=by simp only [vT,hnb]
 have e2:setT v hs set s.nx = set:=by simp only [setT,hnb]
 have e3:nT v hs set = 0:=by simp only [nT,hnb]
 rw [e1,e2,e3] at hr
 obtain ⟨hv,hset,hT⟩:=h
 refine rw_call (s:=s.st) ho hg hd hc ((hT (lkh s.hp) s.nx hhs).mono fun r hm' nx' hn hq=>?_) g a w hsm
 obtain ⟨rfl,rfl⟩:=hq
 show RW P E N ops l ⟨putO (lk s.fr) o.dst v,applyS (lkh s.hp) set,nx'⟩ K
 rw [← putL_lk,← lkh_apply]
 refine hr.reg (ρ:=fun l=>l) ⟨hsm.nx,fun _ _=>rfl,fun _ _ _ _ _ _ e=>e,fun t u e=>⟨?_,u,e,by rw [ren_id]; exact Le.refl u⟩,fun k B e=>?_⟩
 ·show ltN s.nx u = true
  have e':lk (putL s.fr o.dst v) t = some u:=e
  rw [putL_lk] at e'
  cases hd':o.dst with
  | none=>rw [hd'] at e'; exact hsm.ltF (t:=t) e'
  | some d =>
   rw [hd'] at e'
   simp only [putO,upd] at e'
   split at e'
   ·simp at e'; subst e'; exact ltN_mono (Nat.zero_le _) _ hv
   ·exact hsm.ltF (t:=t) e'
 ·have e':lkh (applyH s.hp set) k = some B:=e
  rw [lkh_apply] at e'
  rcases applyS_cases e' with h1 | ⟨h1,_⟩
  ·obtain ⟨B',e1,e2,C,e3⟩:=hset _ h1
   simp at e1; subst e1
   have hk:s.st.hm k = some C:=hhs _ e3
   have:=hsm.ltH hk
   refine ⟨this.1,?_,B,e,by rw [renB_id]; exact LeB.refl B⟩
   cases B with
   | row ty cs=>exact ltNL_mono (Nat.zero_le _) cs e2
   | mp es =>
    refine ltNE_of fun j k v e=>?_
    have:=ltNE_get e2 e
    exact ⟨ltN_mono (Nat.zero_le _) _ this.1,ltN_mono (Nat.zero_le _) _ this.2⟩
  ·have:=hsm.ltH (l:=k) (B:=B) h1
   exact ⟨this.1,this.2,B,e,by rw [renB_id]; exact LeB.refl B⟩
theorem rw_stepS {T:Tab} {sym:Bool} {pc:PC} {ops:Array Oper} {o:Oper} {l:List Oper} {s s':S} {b:List Cnd} {ov ov':OV} (hT:T = Tab.of P) (hpc:PCOK P pc) (h:stepS T sym pc N ops o s ov = some (s',b,ov')) (hb:AllT b) (hr:RW P E N ops l s'.st K):RW P E N ops (o :: l) s.st K:=by
 subst hT
 unfold stepS at h
 split at h
 ·rename_i hg hd
  split at h
  ·rename_i out b' hev
   simp only [Option.some.injEq,Prod.mk.injEq] at h
   obtain ⟨rfl,rfl,_⟩:=h
   replace hb:=hb.append
   rw [fixV_ok hb.1] at hr
   refine rw_op (s':=⟨putO (lk s.fr) o.dst out.v,applyS (lkh s.hp) out.set,s.nx + out.n⟩) ?_ ?_
   ·have hg':guardAV ops s.st.fr o = some true:=hg
    have hev':evOp P o.op (opd s.st.fr) s.st.hm s.st.nx = some out:=evC_ok hev hb.2
    unfold step1
    rw [hg',hd]
    simp only [hev']
    rfl
   ·have:(⟨lk (putL s.fr o.dst out.v),lkh (applyH s.hp out.set),s.nx + out.n⟩:St) = ⟨putO (lk s.fr) o.dst out.v,applyS (lkh s.hp) out.set,s.nx + out.n⟩:=by rw [putL_lk,lkh_apply]
    rw [← this]; exact hr
  ·rename_i hev
   split at h
   ·rename_i c hop
    split at h
    ·rename_i f args hc
     split at h
     ·rename_i v b' hs set hp
      simp only [Option.some.injEq,Prod.mk.injEq] at h
      obtain ⟨rfl,rfl,_⟩:=h
      replace hb:=hb.append
      rw [fixV_ok hb.1] at hr
      obtain ⟨h1,h2⟩:=hpc f args _ v b' hs set hp hb.2
      exact rw_det hop hg hd hc h1 h2 hr
     ·simp at h
    ·simp at h
   ·simp at h
 ·rename_i hg hd
  simp only [Option.some.injEq,Prod.mk.injEq] at h
  obtain ⟨rfl,rfl,_⟩:=h
  refine rw_op (s':=⟨putO (lk s.fr) o.dst (.tuple []),lkh s.hp,s.nx⟩) ?_ ?_
  ·have hg':guardAV ops s.st.fr o = some false:=hg
   unfold step1
   rw [hg',hd]
   rfl
  ·have:(⟨lk (putL s.fr o.dst (.tuple [])),lkh s.hp,s.nx⟩:St) = ⟨putO (lk s.fr) o.dst (.tuple []),lkh s.hp,s.nx⟩:=by rw [putL_lk]
   rw [← this]; exact hr
 ·simp at h
theorem runF_ok {T:Tab} {sym:Bool} {pc:PC} {ops:Array Oper} (hT:T = Tab.of P) (hpc:PCOK P pc):∀ {l:List Oper} {s s':S} {b b':List Cnd} {ov ov':OV} {acc fs:List Foot},runF T sym pc N ops l s b ov acc = some (fs,s',b',ov')→AllT b' →
  AllT b∧∃ cs,(∀ c ∈ cs,CROK P c)∧runA P N ops l cs s.st acc = some (fs,s'.st)
 | [],s,s',b,b',ov,ov',acc,fs,h,hb=>by
  simp only [runF,Option.some.injEq,Prod.mk.injEq] at h
  obtain ⟨rfl,rfl,rfl,_⟩:=h
  exact ⟨hb,[],by simp,rfl⟩
 | o :: l,s,s',b,b',ov,ov',acc,fs,h,hb=>by
  subst hT
  simp only [runF] at h
  split at h
  ·rename_i hg hd
   have hg':guardAV ops s.st.fr o = some true:=hg
   split at h
   ·rename_i out b1 hev
    obtain ⟨h1,cs,h2,h3⟩:=runF_ok rfl hpc h hb
    obtain ⟨hf,h1⟩:=h1.append
    obtain ⟨hb1,hb0⟩:=h1.append
    rw [fixV_ok hf] at h3
    refine ⟨hb0,cs,h2,?_⟩
    have hev':evOp P o.op (opd s.st.fr) s.st.hm s.st.nx = some out:=evC_ok hev hb1
    simp only [runA,hg',hd,hev']
    have:(⟨lk (putL s.fr o.dst out.v),lkh (applyH s.hp out.set),s.nx + out.n⟩:St) = ⟨putO (lk s.fr) o.dst out.v,applyS (lkh s.hp) out.set,s.nx + out.n⟩:=by rw [putL_lk,lkh_apply]
    rw [S.st,this] at h3
    exact h3
   ·rename_i hev
    split at h
    ·rename_i c hop
     split at h
     ·rename_i f args hc
      split at h
      ·rename_i v b1 hs set hp
       obtain ⟨h1,cs,h2,h3⟩:=runF_ok rfl hpc h hb
       obtain ⟨hf,h1⟩:=h1.append
       obtain ⟨hb1,hb0⟩:=h1.append
       rw [fixV_ok hf] at h3
       obtain ⟨q1,q2⟩:=hpc f args _ v b1 hs set hp hb1
       refine ⟨hb0,⟨f,args,hs,v,set⟩ :: cs,fun c hc=>?_,?_⟩
       ·simp at hc
        rcases hc with rfl | hc
        ·exact q1
        ·exact h2 c hc
       ·rw [hop] at hev
        have hno:=callee_noev (P:=P) rfl hev hc
        have hno':evOp P (.call c) (opd s.st.fr) s.st.hm s.st.nx = none:=hno
        have hc':callee (opd s.st.fr) c = some (f,args):=hc
        simp only [runA,hg',hd,hop,hno']
        rw [if_pos ⟨hc',q2⟩]
        have:(⟨lk (putL s.fr o.dst (vT v hs set s.nx)),lkh (applyH s.hp (setT v hs set s.nx)),s.nx + nT v hs set⟩:St) = ⟨putO (lk s.fr) o.dst (vT v hs set s.nx),applyS (lkh s.hp) (setT v hs set s.nx),s.nx + nT v hs set⟩:=by rw [putL_lk,lkh_apply]
        rw [S.st,this] at h3
        exact h3
      ·simp at h
     ·simp at h
    ·simp at h
  ·rename_i hg hd
   have hg':guardAV ops s.st.fr o = some false:=hg
   obtain ⟨h1,cs,h2,h3⟩:=runF_ok rfl hpc h hb
   refine ⟨h1,cs,h2,?_⟩
   simp only [runA,hg',hd]
   have:(⟨lk (putL s.fr o.dst (.tuple [])),lkh s.hp,s.nx⟩:St) = ⟨putO (lk s.fr) o.dst (.tuple []),lkh s.hp,s.nx⟩:=by rw [putL_lk]
   rw [S.st,this] at h3
   exact h3
  ·simp at h
theorem aw_runDr {T:Tab} {sym:Bool} {pc:PC} {id:Nat} {ops:Array Oper} {s s':S} {b:List Cnd} {ov ov':OV} (hT:T = Tab.of P) (hpc:PCOK P pc) (hmix:P.follows .mixedOrders = true) (h:runDr T sym pc N ops s ov = some (s',b,ov')) (hb:AllT b)
  (hr:∀ g a w,Sm P E N s'.st g a w→Post P E N K .normal a w):AW P E N (.region id ops true) s.st K:=by
 unfold runDr at h
 split at h
 ·rename_i fs s1 b1 ov1 hrun
  split at h
  ·rename_i hc
   simp only [Option.some.injEq,Prod.mk.injEq] at h
   obtain ⟨rfl,rfl,_⟩:=h
   simp only [Bool.and_eq_true] at hc
   obtain ⟨_,cs,h2,h3⟩:=runF_ok hT hpc hrun hb
   obtain ⟨fs',h8,h9⟩:=runA_ok h3
   simp only [List.reverse_nil,List.nil_append] at h8
   subst h8
   have e:ops.toList.take ops.size = ops.toList:=by rw [← Array.length_toList,List.take_length]
   have e2:ops.toList.drop ops.size = []:=by rw [← Array.length_toList,List.drop_length]
   refine aw_monoP (K:=fun e s=>e = .normal∧s = ⟨lk (keepL (s1.fr.map (·.1)) s1.fr),lkh s1.hp,s1.nx⟩) ?_ ?_
   ·refine aw_drawn (L:=s.fr) (hm:=lkh s.hp) (nx:=s.nx) ops.size _ (s1.fr.map (·.1)) cs hmix hc.1 rfl h2 (by rw [e]; exact h9) (by rw [e]; exact locB_ok hc.2) rfl ?_
    rw [e2]
    exact rw_nil ⟨rfl,rfl⟩
   ·rintro e a w ⟨x,s2,g2,q1,⟨rfl,rfl⟩,q3⟩
    cases e <;> first | exact q1.elim | skip
    refine hr g2 a w ⟨⟨q3.sim.size,q3.sim.defers,fun t v ht=>?_,q3.sim.mem⟩,q3.nx⟩
    refine q3.sim.fr t v ?_
    have key:∀ (ts:List Nat),t ∈ ts→lk (keepL ts s1.fr) t = some v:=by
     intro ts
     induction ts with
     | nil=>intro h; simp at h
     | cons k ts ih =>
      intro hm
      simp only [keepL]
      cases hk:lk s1.fr k with
      | none =>
       by_cases e:t = k
       ·subst e; have:lk s1.fr t = some v:=ht; rw [hk] at this; simp at this
       ·exact ih (by simpa [e] using hm)
      | some u =>
       simp only [lk_get]
       by_cases e:t = k
       ·subst e; have:lk s1.fr t = some v:=ht; rw [hk] at this; rw [if_pos rfl]; exact this
       ·rw [if_neg e]; exact ih (by simpa [e] using hm)
    refine key _ ?_
    have mem:∀ (L:List (Nat × AV)),lk L t = some v→t ∈ L.map (·.1):=by
     intro L
     induction L with
     | nil=>intro h; simp [lk] at h
     | cons p L ih =>
      obtain ⟨k,u⟩:=p
      intro h
      rw [lk_get] at h
      by_cases e:t = k
      ·simp [e]
      ·rw [if_neg e] at h; simp [ih h]
    exact mem _ ht
  ·simp at h
 ·simp at h
end
end Go.SL
namespace Go.SL
open Go.RowKit
section
variable {P:Program} {E:Env} {N:Nat} {body:Code} {K:Ex→St→Prop}
theorem aw_go {p:Nat} {x:Option Code} {r:List It} {s:S} {c:Code} (hc:codeAt p body = some c) (h:GO P E N body (.go (.c p x :: r)) s K):AW P E N c s.st (KK P E N body r K):=(go_aw hc).1 h
theorem loop_post {p:Nat} {x:Option Code} {r:List It} {c:Code} (hc:codeAt p body = some (.loop c)) (e:Exit) (a:Act) (w:World) (h:Post P E N (KK P E N body (.l p x :: r) K) e a w):Exit.then (LoopOK P c (Post P E N (KK P E N body r K))) (Post P E N (KK P E N body r K)) e a w:=by
 obtain ⟨y,s,g,h1,h2,h3⟩:=h
 cases y <;> cases e <;> first | exact h1.elim | skip
 ·simp only [KK,hc] at h2
  exact h2 g a w h3
 all_goals exact ⟨_,s,g,h1,h2,h3⟩
theorem seg_ok {T:Tab} {sym:Bool} {pc:PC} (hT:T = Tab.of P) (hpc:PCOK P pc) (hmix:P.follows .mixedOrders = true):∀ (n:Nat) {ps ps':Pos} {s s':S} {b b':List Cnd} {ov:OV},seg T sym pc N body n ps s b ov = some (ps',s',b')→AllT b'→GoodP body ps →
  AllT b∧GoodP body ps'∧(GO P E N body ps' s' K→GO P E N body ps s K)
 | 0,ps,ps',s,s',b,b',ov,h,hb,hg=>by
  simp only [seg,Option.some.injEq,Prod.mk.injEq] at h
  obtain ⟨rfl,rfl,rfl⟩:=h
  exact ⟨hb,hg,id⟩
 | n + 1,.go [],ps',s,s',b,b',ov,h,hb,hg=>by
  simp only [seg,Option.some.injEq,Prod.mk.injEq] at h
  obtain ⟨rfl,rfl,rfl⟩:=h
  exact ⟨hb,hg,id⟩
 | n + 1,.go (.b i :: r),ps',s,s',b,b',ov,h,hb,hg=>by
  simp only [seg] at h
  obtain ⟨h1,h2,h3⟩:=seg_ok hT hpc hmix n h hb hg
  exact ⟨h1,h2,fun q=>go_block (h3 q)⟩
 | n + 1,.go (.l p x :: r),ps',s,s',b,b',ov,h,hb,hg=>by
  simp only [seg] at h
  obtain ⟨c,hc,hcx,hgr⟩:∃ c,resC x p body = some c∧codeAt p body = some c∧Good body r:=by
   cases x with
   | some c=>exact ⟨c,rfl,hg.1,hg.2⟩
   | none =>
    cases e:codeAt p body with
    | none=>simp only [resC,e] at h; simp at h
    | some c=>exact ⟨c,e,rfl,hg⟩
  rw [hc] at h
  split at h
  ·rename_i y e
   simp at e; subst e
   have hy:codeAt (2 * p + 0) body = some y:=codeAt_child (by omega) hcx rfl
   obtain ⟨h1,h2,h3⟩:=seg_ok hT hpc hmix n h hb ⟨hy,hcx,hgr⟩
   refine ⟨h1,h2,fun q g a w hs=>?_⟩
   have:=aw_go hy (h3 q)
   refine ⟨.normal,s.st,g,trivial,?_,hs⟩
   simp only [KK,hcx]
   intro g2 a2 w2 hs2
   exact LoopOK.step (wp_mono (this g2 a2 w2 hs2) fun e a w q=>loop_post hcx e a w q)
  ·simp at h
 | n + 1,.go (.c p x :: r),ps',s,s',b,b',ov,h,hb,hg=>by
  simp only [seg] at h
  obtain ⟨c,hc,hcx,hgr⟩:∃ c,resC x p body = some c∧codeAt p body = some c∧Good body r:=by
   cases x with
   | some c=>exact ⟨c,rfl,hg.1,hg.2⟩
   | none =>
    cases e:codeAt p body with
    | none=>simp only [resC,e] at h; simp at h
    | some c=>exact ⟨c,e,rfl,hg⟩
  rw [hc] at h
  cases c with
  | skip =>
   simp only at h
   obtain ⟨h1,h2,h3⟩:=seg_ok hT hpc hmix n h hb (ps:=.go r) hgr
   exact ⟨h1,h2,fun q=>(go_aw hcx).2 fun g a w hs=>wp_skip (h3 q g a w hs)⟩
  | seq y z =>
   simp only at h
   have hy:codeAt (2 * p + 0) body = some y:=codeAt_child (by omega) hcx rfl
   have hz:codeAt (2 * p + 1) body = some z:=codeAt_child (by omega) hcx rfl
   obtain ⟨h1,h2,h3⟩:=seg_ok hT hpc hmix n h hb ⟨hy,hz,hgr⟩
   refine ⟨h1,h2,fun q=>(go_aw hcx).2 (aw_seq ?_)⟩
   rw [seqK_post (x:=some z) hz]
   exact aw_go hy (h3 q)
  | region id ops dr =>
   cases dr with
   | false =>
    simp only at h
    obtain ⟨h1,h2,h3⟩:=seg_ok hT hpc hmix n h hb (ps:=.rr ops ops.toList p 0 r) ⟨⟨id,hcx⟩,rfl,hgr⟩
    exact ⟨h1,h2,fun q=>(go_aw hcx).2 (aw_region (h3 q))⟩
   | true =>
    simp only at h
    split at h
    ·rename_i s1 b1 ov1 hrun
     obtain ⟨h1,h2,h3⟩:=seg_ok hT hpc hmix n h hb (ps:=.go r) hgr
     replace h1:=h1.append
     exact ⟨h1.2,h2,fun q=>(go_aw hcx).2 (aw_runDr hT hpc hmix hrun h1.1 (h3 q))⟩
    ·simp at h
  | cond c y z =>
   simp only at h
   split at h
   ·rename_i e
    have hy:codeAt (2 * p + 0) body = some y:=codeAt_child (by omega) hcx rfl
    obtain ⟨h1,h2,h3⟩:=seg_ok hT hpc hmix n h hb ⟨hy,hgr⟩
    exact ⟨h1,h2,fun q=>(go_aw hcx).2 (aw_cond e (fun _=>aw_go hy (h3 q)) (fun e=>by simp at e))⟩
   ·rename_i e
    have hz:codeAt (2 * p + 1) body = some z:=codeAt_child (by omega) hcx rfl
    obtain ⟨h1,h2,h3⟩:=seg_ok hT hpc hmix n h hb ⟨hz,hgr⟩
    exact ⟨h1,h2,fun q=>(go_aw hcx).2 (aw_cond e (fun e=>by simp at e) (fun _=>aw_go hz (h3 q)))⟩
   ·simp at h
  | block i y =>
   simp only at h
   have hy:codeAt (2 * p + 0) body = some y:=codeAt_child (by omega) hcx rfl
   obtain ⟨h1,h2,h3⟩:=seg_ok hT hpc hmix n h hb (ps:=.go (.c (2 * p + 0) (some y) :: .b i :: r)) ⟨hy,hgr⟩
   exact ⟨h1,h2,fun q=>(go_aw hcx).2 (aw_block (aw_go hy (h3 q)))⟩
  | loop y =>
   simp only at h
   have hy:codeAt (2 * p + 0) body = some y:=codeAt_child (by omega) hcx rfl
   obtain ⟨h1,h2,h3⟩:=seg_ok hT hpc hmix n h hb ⟨hy,hcx,hgr⟩
   refine ⟨h1,h2,fun q=>(go_aw hcx).2 fun g a w hs=>wp_loopOK (LoopOK.step (wp_mono (aw_go hy (h3 q) g a w hs) fun e a w q=>loop_post hcx e a w q))⟩
  | exit i =>
   simp only at h
   split at h
   ·rename_i r' hr
    obtain ⟨h1,h2,h3⟩:=seg_ok hT hpc hmix n h hb (ps:=.go r') (hgr.pop hr)
    exact ⟨h1,h2,fun q=>(go_aw hcx).2 fun g a w hs=>wp_exit (post_exit hr (h3 q g a w hs))⟩
   ·simp at h
  | _=>simp at h
 | n + 1,.op p k r,ps',s,s',b,b',ov,h,hb,hg=>by
  simp only [seg] at h
  split at h
  ·rename_i id ops hc
   obtain ⟨h1,h2,h3⟩:=seg_ok hT hpc hmix n h hb (ps:=.rr ops (ops.toList.drop k) p k r) ⟨⟨id,hc⟩,rfl,hg⟩
   refine ⟨h1,h2,fun q=>?_⟩
   simp only [GO,hc]
   exact h3 q
  ·simp at h
 | n + 1,.rr ops [] p k r,ps',s,s',b,b',ov,h,hb,hg=>by
  simp only [seg] at h
  obtain ⟨h1,h2,h3⟩:=seg_ok hT hpc hmix n h hb (ps:=.go r) hg.2.2
  exact ⟨h1,h2,fun q g a w hs=>h3 q g a w hs⟩
 | n + 1,.rr ops (o :: l) p k r,ps',s,s',b,b',ov,h,hb,hg=>by
  simp only [seg] at h
  split at h
  ·rename_i s1 b1 ov1 hst
   have hl:l = ops.toList.drop (k + 1):=by
    have:=hg.2.1
    have h2:=congrArg List.tail this
    simpa using h2
   obtain ⟨h1,h2,h3⟩:=seg_ok hT hpc hmix n h hb (ps:=.rr ops l p (k + 1) r) ⟨hg.1,hl,hg.2.2⟩
   replace h1:=h1.append
   exact ⟨h1.2,h2,fun q=>rw_stepS hT hpc hst h1.1 (h3 q)⟩
  ·simp at h
def bare:List It→Bool
 | []=>true
 | .c _ none :: r=>bare r
 | .l _ none :: r=>bare r
 | .b _ :: r=>bare r
 | _=>false
def bareP:Pos→Bool
 | .go r=>bare r
 | .op _ _ r=>bare r
 | .rr _ _ _ _ _=>false
theorem bare_good:∀ {r:List It},bare r = true→Good body r
 | [],_=>trivial
 | .c p none :: r,h=>bare_good (r:=r) h
 | .c p (some c) :: r,h=>by simp [bare] at h
 | .l p none :: r,h=>bare_good (r:=r) h
 | .l p (some c) :: r,h=>by simp [bare] at h
 | .b i :: r,h=>bare_good (r:=r) h
theorem bareP_good {ps:Pos} (h:bareP ps = true):GoodP body ps:=by
 cases ps with
 | go r=>exact bare_good h
 | op p k r=>exact bare_good h
 | rr=>simp [bareP] at h
theorem GO.sm {ps:Pos} {s s2:S} (h:GO P E N body ps s K) (hs:∀ g a w,Sm P E N s2.st g a w→∃ g',Sm P E N s.st g' a w):GO P E N body ps s2 K:=by
 cases ps with
 | go r=>exact fun g a w h2=>by obtain ⟨g',h3⟩:=hs g a w h2; exact h g' a w h3
 | op p k r =>
  simp only [GO] at h ⊢
  split
  ·rename_i id ops hc
   rw [hc] at h
   intro g a w h2
   obtain ⟨g',h3⟩:=hs g a w h2
   exact h g' a w h3
  ·rename_i hn
   split at h
   ·rename_i id ops hc; exact (hn id ops hc).elim
   ·exact h
 | rr ops l p k r=>exact fun g a w h2=>by obtain ⟨g',h3⟩:=hs g a w h2; exact h g' a w h3
theorem GO.weaken {ps:Pos} {s s2:S} (h:GO P E N body ps s K) (h1:∀ t v,lk s.fr t = some v→lk s2.fr t = some v) (h2:∀ l B,lkh s.hp l = some B→lkh s2.hp l = some B) (h3:s2.nx≤s.nx):GO P E N body ps s2 K :=
 h.sm fun g a w hs=>⟨g,hs.weaken h1 h2 h3⟩
theorem go_seg {T:Tab} {pc:PC} (sym:Bool) (n:Nat) (ov:OV) (ts hs:List Nat) {ps:Pos} {s:S} (ps':Pos) (s':S) (b:List Cnd) (hT:T = Tab.of P) (hpc:PCOK P pc) (hmix:P.follows .mixedOrders = true) (hbare:bareP ps = true)
  (h:segK T sym pc N body n ov ts hs ps s = some (ps',s',b)) (hb:AllT b) (hk:GO P E N body ps' s' K):GO P E N body ps s K:=by
 unfold segK at h
 split at h
 ·rename_i ps1 s1 b1 hseg
  simp only [Option.some.injEq,Prod.mk.injEq] at h
  obtain ⟨rfl,rfl,rfl⟩:=h
  obtain ⟨_,h2,h3⟩:=seg_ok (E:=E) (K:=K) hT hpc hmix n hseg hb (bareP_good hbare)
  refine h3 (go_strip h2 (GO.weaken hk (keepL_sub ts s1.fr) (keepH_sub hs s1.hp) (Nat.le_refl _)))
 ·simp at h
end
end Go.SL
namespace Go.SL
open Go.RowKit
section
variable {P:Program} {E:Env} {N:Nat} {body:Code} {K:Ex→St→Prop}
def Cv (P:Program) (E:Env) (N:Nat) (s s':S):Prop:=∀ g a w,Sm P E N s.st g a w→∃ g',Sm P E N s'.st g' a w
theorem Cv.refl (s:S):Cv P E N s s:=fun g a w h=>⟨g,h⟩
theorem Cv.trans {s1 s2 s3:S} (h:Cv P E N s1 s2) (k:Cv P E N s2 s3):Cv P E N s1 s3:=fun g a w e=>by
 obtain ⟨g',e'⟩:=h g a w e
 exact k g' a w e'
theorem go_to {ps:Pos} {s:S} (s':S) (h:Cv P E N s s') (k:GO P E N body ps s' K):GO P E N body ps s K:=k.sm h
def nth (ρ:List Nat) (l:Nat):Nat:=match ρ[l]? with | some k=>k | none=>l
def distN (ρ:List Nat):List (Nat × Blk)→Bool
 | []=>true
 | p :: r=>r.all (fun q=>nth ρ p.1 != nth ρ q.1) && distN ρ r
def okN (n:Nat) (ρ:List Nat) (m:Nat) (H:List (Nat × Blk)):Bool:=decide (n≤m) && (List.range n).all (fun l=>nth ρ l == l) && distN ρ H
theorem lkh_mem:∀ {H:List (Nat × Blk)} {l:Nat} {B:Blk},lkh H l = some B→(l,B) ∈ H
 | [],l,B,h=>by simp [lkh] at h
 | (k,C) :: r,l,B,h=>by
  rw [lkh_get] at h
  split at h
  ·rename_i e; simp at h; subst e h; simp
  ·exact List.mem_cons_of_mem _ (lkh_mem h)
theorem distN_ok {ρ:List Nat}:∀ {H:List (Nat × Blk)},distN ρ H = true→∀ l k B C,lkh H l = some B→lkh H k = some C→nth ρ l = nth ρ k→l = k
 | [],_,l,k,B,C,h,_,_=>by simp [lkh] at h
 | (j,D) :: r,hd,l,k,B,C,h1,h2,e=>by
  simp only [distN,Bool.and_eq_true,List.all_eq_true,bne_iff_ne] at hd
  rw [lkh_get] at h1 h2
  split at h1
  ·rename_i e1
   split at h2
   ·rename_i e2; rw [e1,e2]
   ·subst e1; exact absurd e (hd.1 _ (lkh_mem h2))
  ·split at h2
   ·rename_i e2; subst e2; exact absurd e.symm (hd.1 _ (lkh_mem h1))
   ·exact distN_ok hd.2 l k B C h1 h2 e
theorem okN_ok {n m:Nat} {ρ:List Nat} {H:List (Nat × Blk)} (h:okN n ρ m H = true):n≤m∧(∀ l,l < n→nth ρ l = l)∧∀ l k B C,lkh H l = some B→lkh H k = some C→nth ρ l = nth ρ k→l = k:=by
 simp only [okN,Bool.and_eq_true,decide_eq_true_eq,List.all_eq_true,List.mem_range,beq_iff_eq] at h
 obtain ⟨⟨h1,h3⟩,h4⟩:=h
 exact ⟨h1,h3,distN_ok h4⟩
def ToF (ρ:List Nat) (m:Nat) (L:List (Nat × AV)):List (Nat × AV)→Prop
 | []=>True
 | p :: r=>(ltN m p.2 = true∧∃ u,lk L p.1 = some u∧Le u (ren (nth ρ) p.2))∧ToF ρ m L r
def ToH (ρ:List Nat) (m:Nat) (H:List (Nat × Blk)):List (Nat × Blk)→Prop
 | []=>True
 | p :: r=>(p.1 < m∧ltNB m p.2 = true∧∃ B,lkh H (nth ρ p.1) = some B∧LeB B (renB (nth ρ) p.2))∧ToH ρ m H r
theorem slotR {ρ:List Nat} {m:Nat} {L:List (Nat × AV)} {t:Nat} {v:AV} (h1:ltN m v = true) (h:lk L t = some (ren (nth ρ) v)):ltN m v = true∧∃ u,lk L t = some u∧Le u (ren (nth ρ) v):=⟨h1,_,h,Le.refl _⟩
theorem slotL {ρ:List Nat} {m:Nat} {L:List (Nat × AV)} {t:Nat} {v:AV} (u:AV) (h1:ltN m v = true) (h:lk L t = some u) (hl:Le u (ren (nth ρ) v)):ltN m v = true∧∃ u,lk L t = some u∧Le u (ren (nth ρ) v):=⟨h1,u,h,hl⟩
theorem rowR {ρ:List Nat} {m:Nat} {H:List (Nat × Blk)} {l:Nat} {B:Blk} (h0:Nat.blt l m = true) (h1:ltNB m B = true) (h:lkh H (nth ρ l) = some (renB (nth ρ) B)):l < m∧ltNB m B = true∧∃ C,lkh H (nth ρ l) = some C∧LeB C (renB (nth ρ) B):=⟨by simpa [Nat.blt_eq] using h0,h1,_,h,LeB.refl _⟩
mutual
theorem ren_closed {ρ:Nat→Nat}:∀ (v:AV),ltN 0 v = true→ren ρ v = v
 | .ptr l o,h=>by simp [ltN] at h
 | .slice l o k sz,h=>by simp [ltN] at h
 | .map l,h=>by simp [ltN] at h
 | .func fn a b,h=>by simp only [ltN,Bool.and_eq_true] at h; simp only [ren,renL_closed a h.1,renL_closed b h.2]
 | .iface t v,h=>by simp only [ltN] at h; simp only [ren,ren_closed v h]
 | .agg cs,h=>by simp only [ltN] at h; simp only [ren,renL_closed cs h]
 | .tuple cs,h=>by simp only [ltN] at h; simp only [ren,renL_closed cs h]
 | .any,_=>rfl
 | .bool b,_=>rfl
 | .int k n,_=>rfl
 | .str s,_=>rfl
 | .nilp,_=>rfl
 | .nilSlice,_=>rfl
 | .nilMap,_=>rfl
 | .nilFunc,_=>rfl
 | .nilIface,_=>rfl
 | .list sz xs,_=>rfl
 | .lst sz n f,_=>rfl
 | .ref cs o,_=>rfl
theorem renL_closed {ρ:Nat→Nat}:∀ (vs:List AV),ltNL 0 vs = true→renL ρ vs = vs
 | [],_=>rfl
 | v :: vs,h=>by simp only [ltNL,Bool.and_eq_true] at h; simp only [renL,ren_closed v h.1,renL_closed vs h.2]
end
theorem rowS {ρ:List Nat} {m:Nat} {H:List (Nat × Blk)} {l:Nat} {ty:TypeId} {cs:List AV} (cs0:List AV) (h0:Nat.blt l m = true) (h:lkh H (nth ρ l) = some (.row ty cs0)) (h1:ltNL 0 cs = true) (hl:LeL cs0 cs):l < m∧ltNB m (.row ty cs) = true∧∃ C,lkh H (nth ρ l) = some C∧LeB C (renB (nth ρ) (.row ty cs)) :=
 ⟨by simpa [Nat.blt_eq] using h0,ltNL_mono (Nat.zero_le m) cs h1,_,h,by simp only [renB]; rw [renL_closed cs h1]; exact LeB.row ty hl⟩
theorem rowL {ρ:List Nat} {m:Nat} {H:List (Nat × Blk)} {l:Nat} {B:Blk} (C:Blk) (h0:Nat.blt l m = true) (h1:ltNB m B = true) (h:lkh H (nth ρ l) = some C) (hl:LeB C (renB (nth ρ) B)):l < m∧ltNB m B = true∧∃ C,lkh H (nth ρ l) = some C∧LeB C (renB (nth ρ) B):=⟨by simpa [Nat.blt_eq] using h0,h1,C,h,hl⟩
theorem ToF.get {ρ:List Nat} {m:Nat} {L:List (Nat × AV)}:∀ {F:List (Nat × AV)},ToF ρ m L F→∀ t v,lk F t = some v→ltN m v = true∧∃ u,lk L t = some u∧Le u (ren (nth ρ) v)
 | [],_,t,v,h=>by simp [lk] at h
 | (k,x) :: F,hf,t,v,h=>by
  rw [lk_get] at h
  split at h
  ·rename_i e; subst e; simp at h; subst h; exact hf.1
  ·exact hf.2.get t v h
theorem ToH.get {ρ:List Nat} {m:Nat} {H:List (Nat × Blk)}:∀ {F:List (Nat × Blk)},ToH ρ m H F→∀ l B,lkh F l = some B→l < m∧ltNB m B = true∧∃ C,lkh H (nth ρ l) = some C∧LeB C (renB (nth ρ) B)
 | [],_,t,v,h=>by simp [lkh] at h
 | (k,x) :: F,hf,t,v,h=>by
  rw [lkh_get] at h
  split at h
  ·rename_i e; subst e; simp at h; subst h; exact hf.1
  ·exact hf.2.get t v h
theorem cv_ren {n:Nat} (hE:E.n0 = n) {s s':S} (ρ:List Nat) (hn:okN n ρ s'.nx s'.hp = true) (hf:ToF ρ s'.nx s.fr s'.fr) (hh:ToH ρ s'.nx s.hp s'.hp):Cv P E N s s':=fun g a w h=>by
 subst hE
 obtain ⟨h1,h2,h3⟩:=okN_ok hn
 exact h.reg (ρ:=nth ρ) ⟨h1,h2,h3,hf.get,hh.get⟩
def RT (P:Program) (E:Env) (N:Nat) (s:S) (K:Ex→St→Prop):Prop:=∀ g a w,Sm P E N s.st g a w→Post P E N K .ret a w
def PT (P:Program) (E:Env) (N:Nat) (s:S) (v:AV) (K:Ex→St→Prop):Prop:=K (.panic v) s.st
theorem KK_out {e:Exit} {a:Act} {w:World} (hn:e ≠ .normal):∀ {r:List It},(∀ i,e = .exit i→popTo i r = none)→Post P E N K e a w→Post P E N (KK P E N body r K) e a w
 | [],_,h=>h
 | .c p x :: r,hi,h=>by
  obtain ⟨y,s,g,q1,q2,q3⟩:=KK_out hn (r:=r) (fun i e=>by simpa [popTo] using hi i e) h
  refine ⟨y,s,g,q1,?_,q3⟩
  cases y <;> first | exact q2 | (cases e <;> first | exact q1.elim | exact (hn rfl).elim)
 | .l p x :: r,hi,h=>by
  obtain ⟨y,s,g,q1,q2,q3⟩:=KK_out hn (r:=r) (fun i e=>by simpa [popTo] using hi i e) h
  refine ⟨y,s,g,q1,?_,q3⟩
  cases y <;> first | exact q2 | (cases e <;> first | exact q1.elim | exact (hn rfl).elim)
 | .b j :: r,hi,h=>by
  have hi':∀ i,e = .exit i→i ≠ j∧popTo i r = none:=fun i e=>by
   have:=hi i e
   simp only [popTo] at this
   split at this
   ·simp at this
   ·rename_i h0; exact ⟨h0,this⟩
  obtain ⟨y,s,g,q1,q2,q3⟩:=KK_out hn (r:=r) (fun i e=>(hi' i e).2) h
  refine ⟨y,s,g,q1,?_,q3⟩
  cases y with
  | exit i =>
   cases e <;> first | exact q1.elim | skip
   obtain rfl:i = _:=q1
   simp only [KK,blockK]
   rw [if_neg (hi' i rfl).1]; exact q2
  | _=>first | exact q2 | (cases e <;> first | exact q1.elim | exact (hn rfl).elim)
theorem go_ret {p:Nat} {x:Option Code} {r:List It} {s:S} (hc:codeAt p body = some .ret) (h:RT P E N s K):GO P E N body (.go (.c p x :: r)) s K :=
 (go_aw hc).2 fun g a w hs=>wp_ret (KK_out (by simp) (by simp) (h g a w hs))
theorem go_out {p i:Nat} {x:Option Code} {r:List It} {s:S} (hc:codeAt p body = some (.exit i)) (hp:popTo i r = none) (h:∀ g a w,Sm P E N s.st g a w→Post P E N K (.exit i) a w):GO P E N body (.go (.c p x :: r)) s K :=
 (go_aw hc).2 fun g a w hs=>wp_exit (KK_out (by simp) (fun j e=>by simp at e; subst e; exact hp) (h g a w hs))
def LK (P:Program) (E:Env) (N:Nat) (body:Code) {α:Type} (Inv:α→S) (R:α→Prop) (m:α→Nat) (a:α) (r:List It) (K:Ex→St→Prop):Ex→St→Prop
 | .normal,s=>∃ a',m a' < m a∧R a'∧s = (Inv a').st
 | e,s=>KK P E N body r K e s
theorem go_loop {α:Type} (Inv:α→S) (R:α→Prop) (m:α→Nat) (a₀:α) {p:Nat} {x:Option Code} {r:List It} {s:S} {c:Code} (hc:codeAt p body = some (.loop c)) (h0:R a₀) (hs:Cv P E N s (Inv a₀))
  (round:∀ a,R a→GO P E N body (.go [.c (2 * p + 0) none]) (Inv a) (LK P E N body Inv R m a r K)):GO P E N body (.go (.c p x :: r)) s K:=by
 refine GO.sm ?_ hs
 refine (go_aw hc).2 (aw_loop (fun n s=>∃ a,m a = n∧R a∧s = (Inv a).st) (m a₀) ⟨a₀,rfl,h0,rfl⟩ ?_)
 rintro n s' ⟨a,rfl,ha,rfl⟩
 have hc':codeAt (2 * p + 0) body = some c:=codeAt_child (by omega) hc rfl
 refine AW.mono (aw_go hc' (round a ha)) fun e s' h=>?_
 cases e with
 | normal=>obtain ⟨a',q1,q2,q3⟩:=h; exact ⟨m a',q1,a',rfl,q2,q3⟩
 | _=>exact h
theorem go_again {α:Type} {Inv:α→S} {R:α→Prop} {m:α→Nat} {a:α} {r:List It} {s:S} (a':α) (h1:m a' < m a) (h2:R a') (hs:Cv P E N s (Inv a')):GO P E N body (.go []) s (LK P E N body Inv R m a r K):=fun g ac w h=>by
 obtain ⟨g',h'⟩:=hs g ac w h
 exact ⟨.normal,(Inv a').st,g',trivial,⟨a',h1,h2,rfl⟩,h'⟩
theorem go_brk {α:Type} {Inv:α→S} {R:α→Prop} {m:α→Nat} {a:α} {r r0 r':List It} {s:S} {p i:Nat} {x:Option Code} (hc:codeAt p body = some (.exit i)) (hp:popTo i r0 = none) (hp':popTo i r = some r') (h:GO P E N body (.go r') s K):GO P E N body (.go (.c p x :: r0)) s (LK P E N body Inv R m a r K) :=
 go_out hc hp fun g ac w hs=>by
  obtain ⟨y,s1,g1,q1,q2,q3⟩:=post_exit hp' (h g ac w hs)
  refine ⟨y,s1,g1,q1,?_,q3⟩
  cases y <;> first | exact q1.elim | exact q2
theorem rt_loop {α:Type} {Inv:α→S} {R:α→Prop} {m:α→Nat} {a:α} {r:List It} {s:S} (h:RT P E N s K):RT P E N s (LK P E N body Inv R m a r K):=fun g ac w hs=>by
 obtain ⟨y,s1,g1,q1,q2,q3⟩:=KK_out (body:=body) (r:=r) (by simp) (by simp) (h g ac w hs)
 refine ⟨y,s1,g1,q1,?_,q3⟩
 cases y <;> first | exact q1.elim | exact q2
theorem KK_panic {v:AV} {s:St}:∀ {r:List It},K (.panic v) s→KK P E N body r K (.panic v) s
 | [],h=>h
 | .c p x :: r,h=>KK_panic (r:=r) h
 | .l p x :: r,h=>KK_panic (r:=r) h
 | .b j :: r,h=>KK_panic (r:=r) h
def resT (T:Tab) (s:S):List ResultVar→Option (List AV)
 | []=>some []
 | .tmp t :: r=>match lk s.fr t,resT T s r with | some v,some l=>some (v :: l) | _,_=>none
 | .cell a t :: r=>match lk s.fr a,resT T s r with
  | some p,some l=>match deref (lkh s.hp) p,T.ti t with
   | some cs,some ti=>match loadAV ti cs with | some v=>some (v :: l) | none=>none
   | _,_=>none
  | _,_=>none
theorem resT_ok (P:Program) (s:S):∀ (rs:List ResultVar),resT (Tab.of P) s rs = resAV P s.st rs
 | []=>rfl
 | .tmp t :: r=>by simp only [resT,resAV,resT_ok P s r]; rfl
 | .cell a t :: r=>by simp only [resT,resAV,resT_ok P s r]; rfl
def FQ (P:Program) (n:Nat) (rs:List ResultVar) (Q:Ret→List (Nat × Blk)→Nat→Prop):Ex→St→Prop :=
 bodyK P rs fun r hm' nx'=>n≤nx'∧∃ hp1,hm' = lkh hp1∧Q r hp1 nx'
theorem rt_fin {T:Tab} {n:Nat} {rs:List ResultVar} {Q:Ret→List (Nat × Blk)→Nat→Prop} {s:S} (s':S) (l:List AV) (hT:T = Tab.of P) (hs:Cv P E N s s') (hn:Nat.ble n s'.nx = true) (hr:resT T s' rs = some l) (hQ:Q (.ret (oneOf l)) s'.hp s'.nx):RT P E N s (FQ P n rs Q):=fun g a w h=>by
 subst hT
 rw [resT_ok] at hr
 obtain ⟨g',h'⟩:=hs g a w h
 exact ⟨.ret,s'.st,g',trivial,⟨l,lkh s'.hp,hr,fun _ _ e=>e,Nat.le_of_ble_eq_true hn,s'.hp,rfl,hQ⟩,h'⟩
theorem go_fin {T:Tab} {n:Nat} {rs:List ResultVar} {Q:Ret→List (Nat × Blk)→Nat→Prop} {s:S} (s':S) (l:List AV) (hT:T = Tab.of P) (hs:Cv P E N s s') (hn:Nat.ble n s'.nx = true) (hr:resT T s' rs = some l) (hQ:Q (.ret (oneOf l)) s'.hp s'.nx):GO P E N body (.go []) s (FQ P n rs Q):=fun g a w h=>by
 subst hT
 rw [resT_ok] at hr
 obtain ⟨g',h'⟩:=hs g a w h
 exact ⟨.normal,s'.st,g',trivial,⟨l,lkh s'.hp,hr,fun _ _ e=>e,Nat.le_of_ble_eq_true hn,s'.hp,rfl,hQ⟩,h'⟩
theorem lkh_sub:∀ {hp' H:List (Nat × Blk)},hp'.map (fun p=>lkh H p.1) = hp'.map (fun p=>some p.2)→∀ k B,lkh hp' k = some B→lkh H k = some B
 | [],H,_,k,B,h=>by simp [lkh] at h
 | (j,C) :: r,H,e,k,B,h=>by
  simp only [List.map_cons,List.cons.injEq] at e
  rw [lkh_get] at h
  split at h
  ·rename_i h0; subst h0; simp at h; subst h; exact e.1
  ·exact lkh_sub e.2 k B h
theorem rt_finC {T:Tab} {n:Nat} {rs:List ResultVar} {Q:Ret→List (Nat × Blk)→Nat→Prop} {s:S} (s':S) (hp':List (Nat × Blk)) (l:List AV) (hT:T = Tab.of P) (hs:Cv P E N s s') (hn:Nat.ble n s'.nx = true) (hr:resT T s' rs = some l) (hsub:hp'.map (fun p=>lkh s'.hp p.1) = hp'.map (fun p=>some p.2)) (hQ:Q (.ret (oneOf l)) hp' s'.nx):RT P E N s (FQ P n rs Q):=fun g a w h=>by
 subst hT
 rw [resT_ok] at hr
 obtain ⟨g',h'⟩:=hs g a w h
 exact ⟨.ret,s'.st,g',trivial,⟨l,lkh hp',hr,lkh_sub hsub,Nat.le_of_ble_eq_true hn,hp',rfl,hQ⟩,h'⟩
theorem ctr_body {f:FuncId} {fn:Func} {c:Code} {args:List AV} {hp:List (Nat × Blk)} {n:Nat} {Q:Ret→List (Nat × Blk)→Nat→Prop} (hf:P.funcs[f]? = some fn) (hb:fn.body = some c) (hok:callOK P f = true) {N:Nat} (hnt:fn.ntmps = N) (hn:Nat.ble args.length N = true)
  {rs:List ResultVar} (hrs:fn.results.toList = rs) (h:∀ E:Env,E.n0 = n→GO P E N c (.go [.c 1 none]) ⟨argsL 0 args,hp,n⟩ (FQ P n rs Q)):Ctr P f args hp n Q:=by
 refine triple_lk hf hb hok hnt (Nat.le_of_ble_eq_true hn) hrs fun _ E hE=>?_
 exact aw_go (p:=1) (x:=none) (r:=[]) rfl (h E hE)
theorem Ctr.mono {f:FuncId} {args:List AV} {hp:List (Nat × Blk)} {n:Nat} {Q Q':Ret→List (Nat × Blk)→Nat→Prop} (h:Ctr P f args hp n Q) (hq:∀ r hp1 n1,n≤n1→Q r hp1 n1→Q' r hp1 n1):Ctr P f args hp n Q' :=
 Triple.mono h fun r hm' nx' hn ⟨hp1,e,q⟩=>⟨hp1,e,hq r hp1 nx' hn q⟩
theorem Ctr.pure {f:FuncId} {args:List AV} {v:AV} (ha:ltNL 0 args = true) (h:Ctr P f args [] 0 fun r _ _=>r = .ret v) (hv:ltN 0 v = true):PureT P f args v:=fun hm nx=>by
 have:=Ctr.frame (ρ:=fun l=>l) h (hm:=hm) (nx:=nx) (fun i hi=>by omega) (fun i j hi=>by omega) ha (fun i B e=>by simp [lkh] at e) (Q':=fun r hm' _=>r = .ret v∧hm' = hm) ?_
 ·rwa [renL_closed args ha] at this
 ·rintro r hp1 n1 hn rfl
  exact ⟨hm,fun l B hl=>.inr ⟨hl,fun i B0 e=>by simp [lkh] at e⟩,by simp only [renR,ren_closed v hv],rfl⟩
def callAt (N:Nat) (body:Code) (p k:Nat) (s:S):Option (FuncId × List AV × Option Tmp) :=
 match codeAt p body with
 | some (.region _ ops false)=>match ops[k]? with
  | some o=>match guardAV ops (lk s.fr) o,dstOK N o.dst,o.op with
   | some true,true,.call c=>match callee (opd (lk s.fr)) c with | some (f,args)=>some (f,args,o.dst) | none=>none
   | _,_,_=>none
  | none=>none
 | _=>none
def hasN (n:Nat) (ρ:List Nat) (l:Nat):List (Nat × Blk)→Bool
 | []=>false
 | p :: r=>(nth ρ p.1 == l) || hasN n ρ l r
def afterH (hp hp0 hp1:List (Nat × Blk)) (ρ:List Nat) (n nx:Nat):List (Nat × Blk) :=
 hp1.map (fun p=>(later (nth ρ) n nx p.1,renB (later (nth ρ) n nx) p.2)) ++ hp.filter (fun p=>!hasN n ρ p.1 hp0)
theorem lkh_map {f:Nat→Nat} {h:Blk→Blk}:∀ {hp:List (Nat × Blk)} {l:Nat} {B:Blk},lkh (hp.map fun p=>(f p.1,h p.2)) l = some B→∃ i B1,l = f i∧lkh hp i = some B1∧B = h B1
 | [],l,B,e=>by simp [lkh] at e
 | (k,C) :: r,l,B,e=>by
  simp only [List.map_cons,lkh_get] at e
  split at e
  ·rename_i h0
   simp at e; subst e
   exact ⟨k,C,h0,by rw [lkh_get,if_pos rfl],rfl⟩
  ·rename_i h0
   obtain ⟨i,B1,e1,e2,e3⟩:=lkh_map e
   refine ⟨i,B1,e1,?_,e3⟩
   rw [lkh_get,if_neg,e2]
   rintro rfl; exact h0 e1
theorem lkh_append:∀ {a b:List (Nat × Blk)} {l:Nat} {B:Blk},lkh (a ++ b) l = some B→lkh a l = some B∨lkh b l = some B
 | [],b,l,B,e=>.inr e
 | (k,C) :: r,b,l,B,e=>by
  simp only [List.cons_append,lkh_get] at e ⊢
  split at e
  ·rename_i h0; rw [if_pos h0]; exact .inl e
  ·rename_i h0; rw [if_neg h0]; exact lkh_append e
theorem lkh_filter {q:Nat→Bool}:∀ {hp:List (Nat × Blk)} {l:Nat} {B:Blk},lkh (hp.filter fun p=>q p.1) l = some B→q l = true∧lkh hp l = some B
 | [],l,B,e=>by simp [lkh] at e
 | (k,C) :: r,l,B,e=>by
  simp only [List.filter_cons] at e
  split at e
  ·rename_i h0
   rw [lkh_get] at e ⊢
   split at e
   ·rename_i h1; rw [if_pos h1]; subst h1; exact ⟨h0,e⟩
   ·rename_i h1; rw [if_neg h1]; exact lkh_filter e
  ·rename_i h0
   obtain ⟨a,b⟩:=lkh_filter e
   refine ⟨a,?_⟩
   rw [lkh_get,if_neg,b]
   rintro rfl; exact h0 a
theorem hasN_ok {n:Nat} {ρ:List Nat} {l:Nat}:∀ {hp:List (Nat × Blk)},hasN n ρ l hp = false→∀ i B,lkh hp i = some B→nth ρ i ≠ l
 | [],_,i,B,e=>by simp [lkh] at e
 | (k,C) :: r,h,i,B,e=>by
  simp only [hasN,Bool.or_eq_false_iff,beq_eq_false_iff_ne] at h
  rw [lkh_get] at e
  split at e
  ·rename_i h0; subst h0; exact h.1
  ·exact hasN_ok h.2 i B e
def okC (n:Nat) (ρ:List Nat) (nx:Nat):Bool:=(List.range n).all (fun l=>Nat.blt (nth ρ l) nx && (List.range l).all fun k=>nth ρ k != nth ρ l)
theorem okC_ok {n nx:Nat} {ρ:List Nat} (h:okC n ρ nx = true):(∀ i,i < n→nth ρ i < nx)∧∀ i j,i < n→j < n→nth ρ i = nth ρ j→i = j:=by
 simp only [okC,List.all_eq_true,List.mem_range,Bool.and_eq_true,Nat.blt_eq,bne_iff_ne] at h
 refine ⟨fun i hi=>(h i hi).1,fun i j hi hj e=>?_⟩
 rcases Nat.lt_trichotomy i j with h0 | h0 | h0
 ·exact absurd e ((h j hj).2 i h0)
 ·exact h0
 ·exact absurd e.symm ((h i hi).2 j h0)
def ToC (ρ:List Nat) (n:Nat) (H:List (Nat × Blk)):List (Nat × Blk)→Prop
 | []=>True
 | p :: r=>(p.1 < n∧ltNB n p.2 = true∧lkh H (nth ρ p.1) = some (renB (nth ρ) p.2))∧ToC ρ n H r
theorem crowR {ρ:List Nat} {m:Nat} {H:List (Nat × Blk)} {l:Nat} {B:Blk} (h0:Nat.blt l m = true) (h1:ltNB m B = true) (h:lkh H (nth ρ l) = some (renB (nth ρ) B)):l < m∧ltNB m B = true∧lkh H (nth ρ l) = some (renB (nth ρ) B):=⟨by simpa [Nat.blt_eq] using h0,h1,h⟩
theorem crowS {ρ:List Nat} {m:Nat} {H:List (Nat × Blk)} {l:Nat} {ty:TypeId} {cs:List AV} (h0:Nat.blt l m = true) (h:lkh H (nth ρ l) = some (.row ty cs)) (h1:ltNL 0 cs = true):l < m∧ltNB m (.row ty cs) = true∧lkh H (nth ρ l) = some (renB (nth ρ) (.row ty cs)) :=
 ⟨by simpa [Nat.blt_eq] using h0,ltNL_mono (Nat.zero_le m) cs h1,by simp only [renB]; rw [renL_closed cs h1]; exact h⟩
theorem ToC.get {ρ:List Nat} {m:Nat} {H:List (Nat × Blk)}:∀ {F:List (Nat × Blk)},ToC ρ m H F→∀ l B,lkh F l = some B→l < m∧ltNB m B = true∧lkh H (nth ρ l) = some (renB (nth ρ) B)
 | [],_,t,v,h=>by simp [lkh] at h
 | (k,x) :: F,hf,t,v,h=>by
  rw [lkh_get] at h
  split at h
  ·rename_i e; subst e; simp at h; subst h; exact hf.1
  ·exact hf.2.get t v h
theorem Triple.le {f:FuncId} {args args':List AV} {hm:Nat→Option Blk} {nx:Nat} {Q:Ret→(Nat→Option Blk)→Nat→Prop} (h:Triple P f args' hm nx Q) (hc:LeL args args'):Triple P f args hm nx Q :=
 ⟨h.1,fun E F g w xs a b c=>h.2 E F g w xs a b (hc.vrs c)⟩
theorem go_call {p k:Nat} {r:List It} {s:S} {f:FuncId} {d:Option Tmp} {args args0:List AV} {hp0:List (Nat × Blk)} {n0:Nat} {Q:Ret→List (Nat × Blk)→Nat→Prop} (ρ:List Nat) (h:Ctr P f args0 hp0 n0 Q)
  (hc:callAt N body p k s = some (f,args,d)) (hle:LeL args (renL (nth ρ) args0)) (hρ:okC n0 ρ s.nx = true) (ha:ltNL n0 args0 = true) (hh:ToC ρ n0 s.hp hp0)
  (hret:∀ v hp1 n1,n0≤n1→Q (.ret v) hp1 n1→GO P E N body (.op p (k + 1) r) ⟨putL s.fr d (ren (later (nth ρ) n0 s.nx) v),afterH s.hp hp0 hp1 ρ n0 s.nx,s.nx + (n1 - n0)⟩ K)
  (hpan:∀ v hp1 n1,n0≤n1→Q (.panic v) hp1 n1→PT P E N ⟨s.fr,afterH s.hp hp0 hp1 ρ n0 s.nx,s.nx + (n1 - n0)⟩ (ren (later (nth ρ) n0 s.nx) v) K):GO P E N body (.op p k r) s K:=by
 unfold callAt at hc
 split at hc
 ·rename_i id ops hcd
  split at hc
  ·rename_i o ho
   split at hc
   ·rename_i cl hg hd hop
    split at hc
    ·rename_i f' args' hcal
     simp only [Option.some.injEq,Prod.mk.injEq] at hc
     obtain ⟨rfl,rfl,rfl⟩:=hc
     simp only [GO,hcd]
     have hl:ops.toList.drop k = o :: ops.toList.drop (k + 1):=by
      have hk:k < ops.toList.length:=by simpa using (Array.getElem?_eq_some_iff.1 ho).1
      rw [List.drop_eq_getElem_cons hk]
      congr 1
      have:=(Array.getElem?_eq_some_iff.1 ho).2
      simpa using this
     rw [hl]
     obtain ⟨h1,h2⟩:=okC_ok hρ
     refine rw_call (s:=s.st) hop hg hd hcal (Triple.le ?_ hle)
     refine h.frame h1 h2 ha hh.get fun rr hp1 n1 hn hq=>⟨lkh (afterH s.hp hp0 hp1 ρ n0 s.nx),fun l B hl=>?_,?_⟩
     ·rcases lkh_append hl with e | e
      ·obtain ⟨i,B1,e1,e2,e3⟩:=lkh_map e
       exact .inl ⟨i,B1,e1,e2,e3⟩
      ·obtain ⟨e1,e2⟩:=lkh_filter (q:=fun l=>!hasN n0 ρ l hp0) e
       exact .inr ⟨e2,hasN_ok (by simpa using e1)⟩
     ·cases rr with
      | ret v =>
       have:=hret v hp1 n1 hn hq
       simp only [GO,hcd,S.st] at this
       rw [putL_lk] at this
       exact this
      | panic v=>exact KK_panic (hpan v hp1 n1 hn hq)
    ·simp at hc
   ·simp at hc
  ·simp at hc
 ·simp at hc
end
end Go.SL
