import Derived.Test.YtgbcmddacencjaaDoorVcm
import Derived.KernelRfl
import Derived.Test.YtgbcmddacencjaaDoorSLkm
import Derived.Recover
set_option linter.unusedSimpArgs false
set_option linter.unusedVariables false
namespace Go.SL
open Go.RowKit
structure TE where
 k:TK
 sz:Nat
 ti:Option (Option TI)
 pl:Option Bool
inductive BT (α:Type) where
 | leaf (a:Option α)
 | node (l r:BT α)
def BT.get {α:Type}:BT α→Nat→Option α
 | .leaf a,_=>a
 | .node l r,n=>if n % 2 = 0 then l.get (n / 2) else r.get (n / 2)
theorem aN:AllT []:=trivial
theorem aC {c:Bool} {r:List Cnd} (h:c = true) (k:AllT r):AllT (.b c :: r):=⟨h,k⟩
theorem aP {q:Prop} {r:List Cnd} (h:q) (k:AllT r):AllT (.p q :: r):=⟨h,k⟩
theorem aT {r:List Cnd} (k:AllT r):AllT (.b true :: r):=⟨rfl,k⟩
theorem rng_ok {n:Int} (h1:-9223372036854775808≤n) (h2:n≤9223372036854775807):rng n = true:=decide_eq_true ⟨h1,h2⟩
theorem ndec {p:Prop} [Decidable p] (h:¬ p):(!decide p) = true:=by rw [decide_eq_false h]; rfl
theorem ndecF {p:Prop} [Decidable p] (h:p):(!decide p) = false:=by rw [decide_eq_true h]; rfl
theorem all_succ {p:Nat→Prop} {k:Nat} (h:∀ j,j < k→p j) (hk:p k):∀ j,j < k + 1→p j:=fun j hj=>by
 rcases Nat.lt_succ_iff_lt_or_eq.1 hj with h0 | rfl
 ·exact h j h0
 ·exact hk
def bs (l:List UInt8):ByteArray:=⟨l.toArray⟩
def pc0:PC:=fun _ _ _=>none
theorem pc0_ok {P:Program}:PCOK P pc0:=fun f args hm v c hs set h=>by simp [pc0] at h
def pcOr (a b:PC):PC:=fun f args hm=>match a f args hm with | some r=>some r | none=>b f args hm
theorem pcOr_ok {P:Program} {a b:PC} (h:PCOK P a) (k:PCOK P b):PCOK P (pcOr a b):=fun f args hm v c hs set e=>by
 unfold pcOr at e
 split at e
 ·rename_i r hr
  simp at e; subst e
  exact h f args hm v c hs set hr
 ·exact k f args hm v c hs set e
theorem pcs_ok {P:Program}:PCOK P pc0:=pc0_ok
theorem ltNL_append {n:Nat}:∀ {a b:List AV},ltNL n (a ++ b) = (ltNL n a && ltNL n b)
 | [],b=>by simp [ltNL]
 | v :: a,b=>by simp [ltNL,ltNL_append (a:=a),Bool.and_assoc]
def pcF (f:FuncId) (h:List AV→Option (AV × List Cnd)):PC:=fun g args hm=>if g = f then (match h args with | some (v,c)=>some (v,c,[],[]) | none=>none) else none
theorem pcF_ok {P:Program} {f:FuncId} {h:List AV→Option (AV × List Cnd)} (k:∀ args v c,h args = some (v,c)→AllT c→ltN 0 v = true∧PureT P f args v):PCOK P (pcF f h):=fun g args hm v c hs set e=>by
 unfold pcF at e
 split at e
 ·rename_i hg
  subst hg
  split at e
  ·rename_i v' c' hv
   simp only [Option.some.injEq,Prod.mk.injEq] at e
   obtain ⟨rfl,rfl,rfl,rfl⟩:=e
   intro hc
   obtain ⟨h1,h2⟩:=k args v' c' hv hc
   exact ⟨h2.cr h1,by simp⟩
  ·simp at e
 ·simp at e
theorem go_val {P:Program} {E:Env} {N:Nat} {body:Code} {K:Ex→St→Prop} {ps:Pos} {s:S} (t:Nat) (u v:AV) (h:lk s.fr t = some u) (he:u = v) (k:GO P E N body ps ⟨(t,v) :: s.fr,s.hp,s.nx⟩ K):GO P E N body ps s K:=by
 subst he
 refine k.weaken (fun k x hx=>?_) (fun _ _ h=>h) (Nat.le_refl _)
 rw [lk_get] at hx
 split at hx
 ·rename_i e0; subst e0; simp at hx; subst hx; exact h
 ·exact hx
theorem go_bool {P:Program} {E:Env} {N:Nat} {body:Code} {K:Ex→St→Prop} {ps:Pos} {s:S} (t:Nat) (v e:Bool) (h:lk s.fr t = some (.bool e)) (he:e = v) (k:GO P E N body ps ⟨(t,.bool v) :: s.fr,s.hp,s.nx⟩ K):GO P E N body ps s K:=by
 subst he
 refine k.weaken (fun u x hx=>?_) (fun _ _ h=>h) (Nat.le_refl _)
 rw [lk_get] at hx
 split at hx
 ·rename_i e0; subst e0; simp at hx; subst hx; exact h
 ·exact hx
end Go.SL
namespace Go.SL
open Go.RowKit
section
variable {P:Program} {E:Env} {F:Nat→Prop} {hm:Nat→Option Blk} {g g':G} {w:World} {N:Nat} {body:Code} {K:Ex→St→Prop}
def fzV (l sz:Nat) (f:Nat→List AV):AV→AV
 | .slice l' off n sz'=>if l' = l∧off = 0∧sz' = sz then .lst sz n f else .slice l' off n sz'
 | v=>v
def fzVs (l sz:Nat) (f:Nat→List AV):AV→AV
 | .agg cs=>.agg (cs.map (fzV l sz f))
 | .tuple cs=>.tuple (cs.map (fzV l sz f))
 | v=>fzV l sz f v
def fzN (l sz:Nat):AV→List Nat
 | .slice l' off n sz'=>if l' = l∧off = 0∧sz' = sz then [n] else []
 | _=>[]
def fzNs (l sz:Nat):AV→List Nat
 | .agg cs=>cs.flatMap (fzN l sz)
 | .tuple cs=>cs.flatMap (fzN l sz)
 | v=>fzN l sz v
def fzB (l sz:Nat) (f:Nat→List AV):Blk→Blk
 | .row ty cs=>.row ty (cs.map (fzV l sz f))
 | .mp es=>.mp es
theorem mem_freeze (h:Mem P E F hm g w) {l sz:Nat} {ty:TypeId} {cs:List AV} {f:Nat→List AV} {n:Nat} (hl:hm l = some (.row ty cs)) (hc:ltNL 0 cs = true) (hlen:cs.length = n * sz) (hx:∀ i,i < n→(cs.drop (i * sz)).take sz = f i) :
  ∃ g',g.le g'∧Mem P E F (upd hm l none) g' w∧∀ k y,k≤n→VR g (.slice l 0 k sz) y→VR g' (.lst sz k f) y:=by
 have hsub:Mem P E F (upd hm l none) g w:=h.hsub fun k B hk=>by
  by_cases e:k = l
  ·subst e; rw [upd_same] at hk; simp at hk
  ·rw [upd_ne _ _ e] at hk; exact hk
 have hfl:∀ i,i < n→(f i).length = sz:=fun i hi=>by
  rw [← hx i hi,List.length_take,List.length_drop,hlen]
  have:i * sz + sz≤n * sz:=by rw [← Nat.succ_mul]; exact Nat.mul_le_mul_right _ hi
  omega
 rcases h.blk l _ hl with ⟨p,arr,hp,hb,h1,h2,h3,h4⟩ | ⟨hp,h1⟩
 ·-- the cells of the row are added to what stays
  classical
  let J:Nat→Nat→Option Value:=fun b o=>if b = p.block∧p.base≤o∧o < p.base + cs.length then arr[o]? else g.I b o
  let g':G:=⟨g.μ,J⟩
  have hJg:∀ b o x,g.I b o = some x→J b o = some x:=fun b o x e=>by
   simp only [J]
   rw [if_neg]
   ·exact e
   ·rintro ⟨rfl,ho,_⟩
    have:=h.sepI l _ p hl hp o ho
    rw [this] at e; simp at e
  have hle:g.le g':=⟨fun l d e=>e,hJg⟩
  have hJ:∀ b o x,J b o = some x→(b = p.block∧p.base≤o∧arr[o]? = some x)∨g.I b o = some x:=fun b o x e=>by
   simp only [J] at e
   split at e
   ·rename_i hc; exact .inl ⟨hc.1,hc.2.1,e⟩
   ·exact .inr e
  refine ⟨g',hle,?_,?_⟩
  ·exact { hsub with
    blk:=fun k B hk=>(hsub.blk k B hk).mono hle fun q hq=>rfl
    imm:=fun b o x e=>by
     rcases hJ b o x e with ⟨rfl,ho,ha⟩ | e'
     ·simp [World.cell?,hb,ha]
     ·exact hsub.imm b o x e'
    sepI:=fun k B q hk hq o ho=>by
     have hne:k ≠ l:=fun e=>by subst e; rw [upd_same] at hk; simp at hk
     have hk':hm k = some B:=by rw [upd_ne _ _ hne] at hk; exact hk
     show J q.block o = none
     simp only [J]
     rw [if_neg]
     ·exact hsub.sepI k B q hk hq o ho
     ·rintro ⟨e,_⟩; exact h.sep k l _ _ q p hk' hl hne hq hp e
    le0:=G.le_trans h.le0 hle
    immNew:=fun b o x e=>by
     rcases hJ b o x e with ⟨rfl,ho,ha⟩ | e'
     ·exact .inr (h.own l _ p hl hp)
     ·exact h.immNew b o x e' }
  ·intro k y hk hy
   have hcell:∀ (j:Nat) v,cs[j]? = some v→∃ x,g'.I p.block (p.base + j) = some x∧arr[p.base + j]? = some x∧VR g'.im v x:=by
    intro j v hj
    obtain ⟨x,hx1,hx2⟩:=h4 j v hj
    have hlt:j < cs.length:=(List.getElem?_eq_some_iff.1 hj).1
    refine ⟨x,?_,hx1,VR.closed hJg (by exact ltNL_get hc hj) hx2⟩
    show J p.block (p.base + j) = some x
    simp only [J]
    rw [if_pos ⟨trivial,by omega,by omega⟩]
    exact hx1
   have hget:∀ (i:Nat) cc (j:Nat) v,((List.range k).map f)[i]? = some cc→cc[j]? = some v→cs[i * sz + j]? = some v:=by
    intro i cc j v hi hj
    have hik:i < k:=by have:=(List.getElem?_eq_some_iff.1 hi).1; simpa using this
    rw [range_get hik] at hi; simp at hi; subst hi
    rw [← hx i (by omega),List.getElem?_take] at hj
    split at hj
    ·rw [List.getElem?_drop] at hj; exact hj
    ·simp at hj
   refine .lst sz k f y ?_
   have hlk:((List.range k).map f).length = k:=by simp
   cases hy with
   | slice _ _ _ _ c q hq hlen' hk' hc' =>
    rw [hp] at hq; simp at hq; subst hq
    have:=VR.list (g:=g') sz ((List.range k).map f) p.block (p.base + 0) c (fun i j=>arr.getD (p.base + (i * sz + j)) undef) (by rw [hlk]; exact hlen') (fun cc hcc=>by
      obtain ⟨i,hi,rfl⟩:=List.mem_map.1 hcc
      exact hfl i (by have:=List.mem_range.1 hi; omega)) (fun i cc j v hi hj=>?_) (fun i cc j v hi hj=>?_)
    ·rwa [hlk] at this
    ·obtain ⟨x,a1,a2,a3⟩:=hcell _ v (hget i cc j v hi hj)
     have:arr.getD (p.base + (i * sz + j)) undef = x:=by simp [Array.getD_eq_getD_getElem?,a2]
     rw [this,← a1]; congr 1; omega
    ·obtain ⟨x,a1,a2,a3⟩:=hcell _ v (hget i cc j v hi hj)
     have:arr.getD (p.base + (i * sz + j)) undef = x:=by simp [Array.getD_eq_getD_getElem?,a2]
     rw [this]; exact a3
   | slice0 _ _ hq=>rw [hp] at hq; simp at hq
   | sliceZ _ _ _ a q hq hk' ha =>
    have ea:a = ⟨a.block,a.off,none⟩:=by cases a; simp_all
    rw [ea]
    exact .list sz [] a.block a.off 0 (fun _ _=>undef) (Nat.le_refl _) (by simp) (fun i cc j v hi=>by simp at hi) (fun i cc j v hi=>by simp at hi)
   | sliceN _ _ a hq ha=>rw [hp] at hq; simp at hq
 ·refine ⟨g,G.le_refl g,hsub,fun k y hk hy=>?_⟩
  refine .lst sz k f y ?_
  cases hy with
  | slice _ _ _ _ c q hq hlen' hk' hc'=>rw [hp] at hq; simp at hq
  | slice0 _ _ hq=>exact .list0 sz
  | sliceZ _ _ _ a q hq hk' ha=>rw [hp] at hq; simp at hq
  | sliceN _ _ a hq ha =>
   have ea:a = ⟨a.block,a.off,none⟩:=by cases a; simp_all
   rw [ea]
   exact .list sz [] a.block a.off 0 (fun _ _=>undef) (Nat.le_refl _) (by simp) (fun i cc j v hi=>by simp at hi) (fun i cc j v hi=>by simp at hi)
theorem VR.fzV {l sz n:Nat} {f:Nat→List AV} (hle:g.le g') (hz:∀ k y,k≤n→VR g (.slice l 0 k sz) y→VR g' (.lst sz k f) y) {v:AV} {x:Value} (hn:∀ k ∈ fzN l sz v,k≤n) (h:VR g v x):VR g' (SL.fzV l sz f v) x:=by
 cases v with
 | slice l' off' len' sz' =>
  simp only [SL.fzV]
  simp only [fzN] at hn
  split
  ·rename_i e
   rw [if_pos e] at hn
   obtain ⟨rfl,rfl,rfl⟩:=e
   exact hz _ x (hn _ (by simp)) h
  ·exact h.mono hle
 | _=>exact h.mono hle
theorem VRs.fzV {l sz n:Nat} {f:Nat→List AV} (hle:g.le g') (hz:∀ k y,k≤n→VR g (.slice l 0 k sz) y→VR g' (.lst sz k f) y) {vs:List AV} {xs:List Value} (hn:∀ k ∈ vs.flatMap (fzN l sz),k≤n) (h:VRs g vs xs):VRs g' (vs.map (SL.fzV l sz f)) xs:=by
 refine ⟨by simp [h.1],fun j v x a b=>?_⟩
 rw [List.getElem?_map] at a
 cases e:vs[j]? with
 | none=>rw [e] at a; simp at a
 | some u =>
  rw [e] at a; simp at a; subst a
  exact (h.2 j u x e b).fzV hle hz fun k hk=>hn k (List.mem_flatMap.2 ⟨u,List.mem_of_getElem? e,hk⟩)
theorem VR.fzVs {l sz n:Nat} {f:Nat→List AV} (hle:g.le g') (hz:∀ k y,k≤n→VR g (.slice l 0 k sz) y→VR g' (.lst sz k f) y) {v:AV} {x:Value} (hn:∀ k ∈ fzNs l sz v,k≤n) (h:VR g v x):VR g' (SL.fzVs l sz f v) x:=by
 cases v with
 | agg cs =>
  cases h with
  | agg _ ys h1 hx =>
   have:=(vrs_of_arr h1 hx).fzV hle hz hn
   exact .agg _ _ (by simpa using this.1) fun j v x a b=>this.2 j v x a (by simpa using b)
 | tuple cs =>
  cases h with
  | tuple _ ys h1 hx =>
   have:=(vrs_of_arr h1 hx).fzV hle hz hn
   exact .tuple _ _ (by simpa using this.1) fun j v x a b=>this.2 j v x a (by simpa using b)
 | _=>first | exact VR.fzV (v:=.slice _ _ _ _) hle hz hn h | exact h.mono hle
def fzS (l sz:Nat) (f:Nat→List AV) (s:S):S:=⟨s.fr.map fun p=>(p.1,fzVs l sz f p.2),(delH l s.hp).map fun p=>(p.1,fzB l sz f p.2),s.nx⟩
def fzL (l sz:Nat) (s:S):List Nat:=s.fr.flatMap (fun p=>fzNs l sz p.2) ++ (delH l s.hp).flatMap fun p=>match p.2 with | .row _ cs=>cs.flatMap (fzN l sz) | .mp _=>[]
theorem lk_map {h:AV→AV}:∀ {L:List (Nat × AV)} {t:Nat} {v:AV},lk (L.map fun p=>(p.1,h p.2)) t = some v→∃ u,(t,u) ∈ L∧lk L t = some u∧v = h u
 | [],t,v,e=>by simp [lk] at e
 | (k,u) :: r,t,v,e=>by
  simp only [List.map_cons,lk_get] at e
  split at e
  ·rename_i h0; simp at e; subst e h0; exact ⟨u,by simp,by rw [lk_get,if_pos rfl],rfl⟩
  ·rename_i h0
   obtain ⟨u',a,b,c⟩:=lk_map e
   exact ⟨u',List.mem_cons_of_mem _ a,by rw [lk_get,if_neg h0]; exact b,c⟩
theorem lkh_mapB {h:Blk→Blk}:∀ {L:List (Nat × Blk)} {t:Nat} {v:Blk},lkh (L.map fun p=>(p.1,h p.2)) t = some v→∃ u,(t,u) ∈ L∧lkh L t = some u∧v = h u
 | [],t,v,e=>by simp [lkh] at e
 | (k,u) :: r,t,v,e=>by
  simp only [List.map_cons,lkh_get] at e
  split at e
  ·rename_i h0; simp at e; subst e h0; exact ⟨u,by simp,by rw [lkh_get,if_pos rfl],rfl⟩
  ·rename_i h0
   obtain ⟨u',a,b,c⟩:=lkh_mapB e
   exact ⟨u',List.mem_cons_of_mem _ a,by rw [lkh_get,if_neg h0]; exact b,c⟩
theorem cv_freeze {s:S} (l sz:Nat) (ty:TypeId) (cs:List AV) (n:Nat) (f:Nat→List AV) (hl:lkh s.hp l = some (.row ty cs)) (hc:ltNL 0 cs = true) (hlen:cs.length = n * sz) (hx:∀ i,i < n→(cs.drop (i * sz)).take sz = f i) (hn:∀ k ∈ fzL l sz s,k≤n):Cv P E N s (fzS l sz f s):=fun g a w h=>by
 obtain ⟨g',hle,hM,hz⟩:=mem_freeze h.sim.mem (hl:s.st.hm l = _) hc hlen hx
 refine ⟨g',⟨h.sim.size,h.sim.defers,fun t v e=>?_,?_⟩,h.nx⟩
 ·obtain ⟨u,hmem,hu,rfl⟩:=lk_map (h:=fzVs l sz f) e
  obtain ⟨x,hx1,hx2⟩:=h.sim.fr t u hu
  exact ⟨x,hx1,hx2.fzVs hle hz fun k hk=>hn k (List.mem_append.2 (.inl (List.mem_flatMap.2 ⟨(t,u),hmem,hk⟩)))⟩
 ·have key:∀ k B,(fzS l sz f s).st.hm k = some B→∃ u,(k,u) ∈ delH l s.hp∧upd s.st.hm l none k = some u∧B = fzB l sz f u:=fun k B hk=>by
   obtain ⟨u,hmem,hu,e⟩:=lkh_mapB (h:=fzB l sz f) hk
   rw [lkh_del] at hu
   exact ⟨u,hmem,hu,e⟩
  exact { hM with
   blk:=fun k B hk=>by
    obtain ⟨u,hmem,hu,rfl⟩:=key k B hk
    have hb:=hM.blk k u hu
    have hb0:BlkOK P g w k u:=by
     by_cases e:k = l
     ·subst e; rw [upd_same] at hu; simp at hu
     ·rw [upd_ne _ _ e] at hu; exact h.sim.mem.blk k u hu
    cases u with
    | row ty' cs' =>
     rcases hb0 with ⟨q,arr,hq,hb',h1,h2,h3,h4⟩ | ⟨hq,h1⟩
     ·refine .inl ⟨q,arr,hle.1 _ _ hq,hb',h1,by simpa using h2,by simpa using h3,fun j v e=>?_⟩
      rw [List.getElem?_map] at e
      cases hcj:cs'[j]? with
      | none=>rw [hcj] at e; simp at e
      | some u =>
       rw [hcj] at e; simp at e; subst e
       obtain ⟨x,ex,hx⟩:=h4 j u hcj
       refine ⟨x,ex,hx.fzV hle hz fun k' hk'=>hn k' (List.mem_append.2 (.inr (List.mem_flatMap.2 ⟨_,hmem,?_⟩)))⟩
       exact List.mem_flatMap.2 ⟨u,List.mem_of_getElem? hcj,hk'⟩
     ·exact .inr ⟨hle.1 _ _ hq,by simp [h1]⟩
    | mp es=>exact hb
   sep:=fun k k' B B' p p' hk hk'=>by
    obtain ⟨u,_,hu,rfl⟩:=key k B hk
    obtain ⟨u',_,hu',rfl⟩:=key k' B' hk'
    exact hM.sep k k' u u' p p' hu hu'
   sepI:=fun k B p hk=>by
    obtain ⟨u,_,hu,rfl⟩:=key k B hk
    exact hM.sepI k u p hu
   own:=fun k B p hk=>by
    obtain ⟨u,_,hu,rfl⟩:=key k B hk
    exact hM.own k u p hu
   exact:=fun k ty' cs' p hk hq he=>by
    obtain ⟨u,_,hu,e⟩:=key k _ hk
    cases u with
    | mp es=>simp [fzB] at e
    | row ty2 cs2 =>
     simp only [fzB,Blk.row.injEq] at e
     obtain ⟨rfl,rfl⟩:=e
     have:=hM.exact k _ cs2 p hu hq he
     simpa using this }
theorem cv_freezeL {s:S} (l sz:Nat) (ty:TypeId) (cs:List AV) (n:Nat) (f:Nat→List AV) (ks:List Nat) (hl:lkh s.hp l = some (.row ty cs)) (hc:ltNL 0 cs = true) (hlen:cs.length = n * sz) (hx:∀ i,i < n→(cs.drop (i * sz)).take sz = f i) (hL:fzL l sz s = ks) (hn:∀ k ∈ ks,k≤n):Cv P E N s (fzS l sz f s) :=
 cv_freeze l sz ty cs n f hl hc hlen hx (hL ▸ hn)
def nlS (ty sz:Nat) (at':Nat × Option Nat) (s:S):Option S :=
 match at' with
 | (t,none)=>match lk s.fr t with
  | some .nilSlice=>some ⟨(t,.slice s.nx 0 0 sz) :: s.fr,(s.nx,.row ty []) :: s.hp,s.nx + 1⟩
  | _=>none
 | (l,some j)=>match lkh s.hp l with
  | some (.row ty' cs)=>match cs[j]? with
   | some .nilSlice=>if l = s.nx then none else some ⟨s.fr,(s.nx,.row ty []) :: (l,.row ty' (cs.set j (.slice s.nx 0 0 sz))) :: s.hp,s.nx + 1⟩
   | _=>none
  | _=>none
theorem cv_nil {s s':S} (ty sz:Nat) (at':Nat × Option Nat) (h:nlS ty sz at' s = some s'):Cv P E N s s':=fun g a w hs=>by
 have hF:s.nx≤s.nx∨E.F s.nx:=.inl (Nat.le_refl _)
 obtain ⟨g',hle,hI,hμ,hM⟩:=mem_noplace hs.sim.mem (e:=ty) (id:=s.nx) hF
 have hsub:∀ l,(s.nx + 1≤l∨E.F l)→minus (fun l=>s.st.nx≤l∨E.F l) s.nx 1 l:=fun l hl=>by
  refine ⟨hl.elim (fun h=>.inl (by show s.nx≤l; omega)) .inr,fun hc=>?_⟩
  rcases hl with hl | hl
  ·omega
  ·have:=E.hF l hl; have:=hs.nx; have e:s.st.nx = s.nx:=rfl; omega
 obtain ⟨t,j⟩:=at'
 cases j with
 | none =>
  simp only [nlS] at h
  split at h
  ·rename_i hv
   simp at h; subst h
   refine ⟨g',⟨hs.sim.size,hs.sim.defers,fun k v e=>?_,?_⟩,Nat.le_trans hs.nx (Nat.le_succ _)⟩
   ·have e':lk ((t,.slice s.nx 0 0 sz) :: s.fr) k = some v:=e
    rw [lk_get] at e'
    split at e'
    ·rename_i h0; subst h0; simp at e'; subst e'
     obtain ⟨x,hx1,hx2⟩:=hs.sim.fr k _ hv
     cases hx2
     exact ⟨_,hx1,.slice0 _ sz hμ⟩
    ·obtain ⟨x,hx1,hx2⟩:=hs.sim.fr k v e'
     exact ⟨x,hx1,hx2.mono hle⟩
   ·refine (hM.fsub hsub).hsub fun k B e=>?_
    have e':lkh ((s.nx,.row ty []) :: s.hp) k = some B:=e
    rw [lkh_get] at e'
    split at e'
    ·rename_i h0; subst h0; simp at e'; subst e'; exact upd_same _ _ _
    ·rename_i h0; rw [upd_ne _ _ h0]; exact e'
  ·simp at h
 | some j =>
  simp only [nlS] at h
  split at h
  ·rename_i ty' cs hl
   split at h
   ·rename_i hv
    split at h
    ·simp at h
    ·rename_i hne
     simp at h; subst h
     refine ⟨g',⟨hs.sim.size,hs.sim.defers,fun k v e=>?_,?_⟩,Nat.le_trans hs.nx (Nat.le_succ _)⟩
     ·obtain ⟨x,hx1,hx2⟩:=hs.sim.fr k v e
      exact ⟨x,hx1,hx2.mono hle⟩
     ·have hl':upd s.st.hm s.nx (some (.row ty [])) t = some (.row ty' cs):=by rw [upd_ne _ _ hne]; exact hl
      have key:∀ k B,lkh ((s.nx,.row ty []) :: (t,.row ty' (cs.set j (.slice s.nx 0 0 sz))) :: s.hp) k = some B→(k = t∧B = .row ty' (cs.set j (.slice s.nx 0 0 sz)))∨(k ≠ t∧upd s.st.hm s.nx (some (.row ty [])) k = some B):=fun k B e=>by
       rw [lkh_get] at e
       split at e
       ·rename_i h0; subst h0; simp at e; subst e; exact .inr ⟨fun e=>hne e.symm,upd_same _ _ _⟩
       ·rename_i h0
        rw [lkh_get] at e
        split at e
        ·rename_i h1; subst h1; simp at e; exact .inl ⟨rfl,e.symm⟩
        ·rename_i h1; exact .inr ⟨h1,by rw [upd_ne _ _ h0]; exact e⟩
      have hdef:∀ k B,lkh ((s.nx,.row ty []) :: (t,.row ty' (cs.set j (.slice s.nx 0 0 sz))) :: s.hp) k = some B→∃ B0,upd s.st.hm s.nx (some (.row ty [])) k = some B0:=fun k B e=>by
       rcases key k B e with ⟨rfl,_⟩ | ⟨_,e'⟩
       ·exact ⟨_,hl'⟩
       ·exact ⟨_,e'⟩
      have hM':=hM.fsub hsub
      exact { hM' with
       blk:=fun k B e=>by
        rcases key k B e with ⟨rfl,rfl⟩ | ⟨_,e'⟩
        ·rcases hM'.blk k _ hl' with ⟨q,arr,hq,hb',h1,h2,h3,h4⟩ | ⟨hq,h1⟩
         ·refine .inl ⟨q,arr,hq,hb',h1,by simpa using h2,by simpa using h3,fun i v e=>?_⟩
          by_cases hij:j = i
          ·subst hij
           have hlt:j < cs.length:=(List.getElem?_eq_some_iff.1 hv).1
           rw [List.getElem?_set_self hlt] at e
           simp at e; subst e
           obtain ⟨x,hx1,hx2⟩:=h4 j _ hv
           cases hx2
           exact ⟨_,hx1,.slice0 _ sz hμ⟩
          ·rw [List.getElem?_set_ne hij] at e
           exact h4 i v e
         ·subst h1; simp at hv
        ·exact hM'.blk k B e'
       sep:=fun k k' B B' p p' e e' hn hp hp'=>by
        obtain ⟨B0,h0⟩:=hdef k B e
        obtain ⟨B1,h1⟩:=hdef k' B' e'
        exact hM'.sep k k' B0 B1 p p' h0 h1 hn hp hp'
       sepI:=fun k B p e hp=>by
        obtain ⟨B0,h0⟩:=hdef k B e
        exact hM'.sepI k B0 p h0 hp
       own:=fun k B p e hp=>by
        obtain ⟨B0,h0⟩:=hdef k B e
        exact hM'.own k B0 p h0 hp
       exact:=fun k ty2 cs2 p e hp he=>by
        rcases key k _ e with ⟨rfl,e2⟩ | ⟨_,e'⟩
        ·simp only [Blk.row.injEq] at e2
         obtain ⟨rfl,rfl⟩:=e2
         have:=hM'.exact k _ cs p hl' hp he
         simpa using this
        ·exact hM'.exact k ty2 cs2 p e' hp he }
   ·simp at h
  ·simp at h
theorem ltNB_mono {n m:Nat} (h:n≤m) {B:Blk} (e:ltNB n B = true):ltNB m B = true:=by
 cases B with
 | row ty cs=>exact ltNL_mono h cs e
 | mp es=>exact ltNE_of fun j k v e'=>by have:=ltNE_get e e'; exact ⟨ltN_mono h _ this.1,ltN_mono h _ this.2⟩
theorem renB_closed {ρ:Nat→Nat} {B:Blk} (e:ltNB 0 B = true):renB ρ B = B:=by
 cases B with
 | row ty cs=>simp only [renB]; rw [renL_closed cs e]
 | mp es =>
  simp only [renB,renE]
  congr 1
  have:∀ (es:List (AV × AV)),ltNE 0 es = true→es.map (fun e=>(ren ρ e.1,ren ρ e.2)) = es:=by
   intro es
   induction es with
   | nil=>intro _; rfl
   | cons e es ih=>intro h; simp only [ltNE,Bool.and_eq_true] at h; simp only [List.map_cons,ih h.2,ren_closed e.1 h.1.1,ren_closed e.2 h.1.2]
  exact this es e
theorem crok1 {f:FuncId} {args0:List AV} {B0 B1:Blk} {v:AV} (h:Ctr P f args0 [(0,B0)] 1 fun r hp1 n1=>r = .ret v∧hp1 = [(0,B1)]∧n1 = 1) (hv:ltN 0 v = true) (hB0:ltNB 0 B0 = true) (hB1:ltNB 0 B1 = true) (ha:ltNL 1 args0 = true) (l:Nat) :
  CROK P ⟨f,renL (fun _=>l) args0,[(l,some B0)],v,[(l,some B1)]⟩:=by
 refine CROK.of (nbT_cons _ _ _ _) ⟨hv,fun x hx=>?_,fun hm nx hh=>⟨h.1,fun E F g w xs hF hM hvs=>?_⟩⟩
 ·simp at hx; subst hx; exact ⟨B1,rfl,hB1,B0,by simp⟩
 ·have hl:hm l = some B0:=hh (l,some B0) (by simp)
  have hlt:l < nx:=by
   rcases Nat.lt_or_ge l nx with h0 | h0
   ·exact h0
   ·obtain ⟨d,hd⟩:=(hM.blk l B0 hl).def
    rw [hM.fresh l (hF l h0)] at hd; simp at hd
  have hrow:∀ i B,lkh [(0,B0)] i = some B→i = 0∧B = B0:=fun i B e=>by
   rw [lkh_get] at e
   split at e
   ·rename_i h0; simp at e; exact ⟨h0,e.symm⟩
   ·simp [lkh] at e
  refine (Ctr.frame (ρ:=fun _=>l) h (hm:=hm) (nx:=nx) (fun _ _=>hlt) (fun i j hi hj _=>by omega) ha (fun i B e=>?_) (Q':=fun r hm' _=>r = .ret v∧hm' = applyS hm [(l,some B1)]) ?_).2 E F g w xs hF hM hvs
  ·obtain ⟨rfl,rfl⟩:=hrow i B e
   exact ⟨by omega,ltNB_mono (Nat.zero_le _) hB0,by rw [renB_closed hB0]; exact hl⟩
  ·rintro r hp1 n1 hn ⟨rfl,rfl,rfl⟩
   refine ⟨applyS hm [(l,some B1)],fun k B e=>?_,by simp only [renR,ren_closed v hv],rfl⟩
   rcases applyS_cases e with h1 | ⟨h1,h2⟩
   ·simp at h1
    obtain ⟨rfl,rfl⟩:=h1
    exact .inl ⟨0,B,by simp [later],by rw [lkh_get,if_pos rfl],by rw [renB_closed hB1]⟩
   ·refine .inr ⟨h1,fun i B0' e'=>?_⟩
    have:=h2 (l,some B1) (by simp)
    exact this
end
end Go.SL
namespace Go.SL
open Go.RowKit
theorem toFR {ρ:List Nat} {m:Nat} {L:List (Nat × AV)}:∀ {F:List (Nat × AV)} (h1:F.all (fun p=>ltN m p.2) = true:=by kernel_rfl) (h2:F.map (fun p=>lk L p.1) = F.map (fun p=>some (ren (nth ρ) p.2)):=by kernel_rfl),ToF ρ m L F
 | [],_,_=>trivial
 | p :: F,h1,h2=>by
  simp only [List.all_cons,Bool.and_eq_true] at h1
  simp only [List.map_cons,List.cons.injEq] at h2
  exact ⟨⟨h1.1,_,h2.1,Le.refl _⟩,toFR h1.2 h2.2⟩
theorem toHR {ρ:List Nat} {m:Nat} {H:List (Nat × Blk)}:∀ {F:List (Nat × Blk)} (h1:F.all (fun p=>Nat.blt p.1 m && ltNB m p.2) = true:=by kernel_rfl) (h2:F.map (fun p=>lkh H (nth ρ p.1)) = F.map (fun p=>some (renB (nth ρ) p.2)):=by kernel_rfl),ToH ρ m H F
 | [],_,_=>trivial
 | p :: F,h1,h2=>by
  simp only [List.all_cons,Bool.and_eq_true,Nat.blt_eq] at h1
  simp only [List.map_cons,List.cons.injEq] at h2
  exact ⟨⟨h1.1.1,h1.1.2,_,h2.1,LeB.refl _⟩,toHR (by simpa using h1.2) h2.2⟩
theorem toCR {ρ:List Nat} {m:Nat} {H:List (Nat × Blk)}:∀ {F:List (Nat × Blk)} (h1:F.all (fun p=>Nat.blt p.1 m && ltNB m p.2) = true:=by kernel_rfl) (h2:F.map (fun p=>lkh H (nth ρ p.1)) = F.map (fun p=>some (renB (nth ρ) p.2)):=by kernel_rfl),ToC ρ m H F
 | [],_,_=>trivial
 | p :: F,h1,h2=>by
  simp only [List.all_cons,Bool.and_eq_true,Nat.blt_eq] at h1
  simp only [List.map_cons,List.cons.injEq] at h2
  exact ⟨⟨h1.1.1,h1.1.2,h2.1⟩,toCR (by simpa using h1.2) h2.2⟩
theorem sR {ρ:List Nat} {m:Nat} {L:List (Nat × AV)} {t:Nat} {v:AV} (h1:ltN m v = true:=by kernel_rfl) (h:lk L t = some (ren (nth ρ) v):=by kernel_rfl):ltN m v = true∧∃ u,lk L t = some u∧Le u (ren (nth ρ) v):=slotR h1 h
theorem sL {ρ:List Nat} {m:Nat} {L:List (Nat × AV)} {t:Nat} {v:AV} (u:AV) (hl:Le u (ren (nth ρ) v)) (h1:ltN m v = true:=by kernel_rfl) (h:lk L t = some u:=by kernel_rfl):ltN m v = true∧∃ u,lk L t = some u∧Le u (ren (nth ρ) v):=slotL u h1 h hl
theorem rR {ρ:List Nat} {m:Nat} {H:List (Nat × Blk)} {l:Nat} {B:Blk} (h0:Nat.blt l m = true:=by kernel_rfl) (h1:ltNB m B = true:=by kernel_rfl) (h:lkh H (nth ρ l) = some (renB (nth ρ) B):=by kernel_rfl):l < m∧ltNB m B = true∧∃ C,lkh H (nth ρ l) = some C∧LeB C (renB (nth ρ) B):=rowR h0 h1 h
theorem rS {ρ:List Nat} {m:Nat} {H:List (Nat × Blk)} {l:Nat} {ty:TypeId} {cs:List AV} (cs0:List AV) (h1:ltNL 0 cs = true) (hl:LeL cs0 cs) (h0:Nat.blt l m = true:=by kernel_rfl) (h:lkh H (nth ρ l) = some (.row ty cs0):=by kernel_rfl):l < m∧ltNB m (.row ty cs) = true∧∃ C,lkh H (nth ρ l) = some C∧LeB C (renB (nth ρ) (.row ty cs)):=rowS cs0 h0 h h1 hl
theorem rL {ρ:List Nat} {m:Nat} {H:List (Nat × Blk)} {l:Nat} {B:Blk} (C:Blk) (hl:LeB C (renB (nth ρ) B)) (h0:Nat.blt l m = true:=by kernel_rfl) (h1:ltNB m B = true:=by kernel_rfl) (h:lkh H (nth ρ l) = some C:=by kernel_rfl):l < m∧ltNB m B = true∧∃ C,lkh H (nth ρ l) = some C∧LeB C (renB (nth ρ) B):=rowL C h0 h1 h hl
theorem rM {ρ:List Nat} {m:Nat} {H:List (Nat × Blk)} {l:Nat} {es:List (AV × AV)} (es0:List (AV × AV)) (h1:ltNB 0 (.mp es) = true) (he:es0 = es) (h0:Nat.blt l m = true:=by kernel_rfl) (h:lkh H (nth ρ l) = some (.mp es0):=by kernel_rfl):l < m∧ltNB m (.mp es) = true∧∃ C,lkh H (nth ρ l) = some C∧LeB C (renB (nth ρ) (.mp es)):=by
 subst he
 exact ⟨by simpa [Nat.blt_eq] using h0,ltNB_mono (Nat.zero_le m) h1,_,h,by rw [renB_closed h1]; exact LeB.refl _⟩
theorem cR {ρ:List Nat} {m:Nat} {H:List (Nat × Blk)} {l:Nat} {B:Blk} (h0:Nat.blt l m = true:=by kernel_rfl) (h1:ltNB m B = true:=by kernel_rfl) (h:lkh H (nth ρ l) = some (renB (nth ρ) B):=by kernel_rfl):l < m∧ltNB m B = true∧lkh H (nth ρ l) = some (renB (nth ρ) B):=crowR h0 h1 h
theorem cS {ρ:List Nat} {m:Nat} {H:List (Nat × Blk)} {l:Nat} {ty:TypeId} {cs:List AV} (h1:ltNL 0 cs = true) (h0:Nat.blt l m = true:=by kernel_rfl) (h:lkh H (nth ρ l) = some (.row ty cs):=by kernel_rfl):l < m∧ltNB m (.row ty cs) = true∧lkh H (nth ρ l) = some (renB (nth ρ) (.row ty cs)):=crowS h0 h h1
section
variable {P:Program} {E:Env} {N:Nat} {body:Code} {K:Ex→St→Prop}
theorem cvR {n:Nat} (hE:E.n0 = n) {s s':S} (ρ:List Nat) (hn:okN n ρ s'.nx s'.hp = true:=by kernel_rfl) (a1:s'.fr.all (fun p=>ltN s'.nx p.2) = true:=by kernel_rfl) (a2:s'.fr.map (fun p=>lk s.fr p.1) = s'.fr.map (fun p=>some (ren (nth ρ) p.2)):=by kernel_rfl)
  (b1:s'.hp.all (fun p=>Nat.blt p.1 s'.nx && ltNB s'.nx p.2) = true:=by kernel_rfl) (b2:s'.hp.map (fun p=>lkh s.hp (nth ρ p.1)) = s'.hp.map (fun p=>some (renB (nth ρ) p.2)):=by kernel_rfl):Cv P E N s s':=cv_ren hE ρ hn (toFR a1 a2) (toHR b1 b2)
theorem cvM {n:Nat} (hE:E.n0 = n) {s s':S} (ρ:List Nat) (hf:ToF ρ s'.nx s.fr s'.fr) (hh:ToH ρ s'.nx s.hp s'.hp) (hn:okN n ρ s'.nx s'.hp = true:=by kernel_rfl):Cv P E N s s':=cv_ren hE ρ hn hf hh
theorem gb {ps:Pos} {s:S} (t:Nat) (v e:Bool) (he:e = v) (k:GO P E N body ps ⟨(t,.bool v) :: s.fr,s.hp,s.nx⟩ K) (h:lk s.fr t = some (.bool e):=by kernel_rfl):GO P E N body ps s K:=go_bool t v e h he k
theorem gc {p k:Nat} {r:List It} {s:S} {f:FuncId} {d:Option Tmp} {args args0:List AV} {hp0:List (Nat × Blk)} {n0:Nat} {Q:Ret→List (Nat × Blk)→Nat→Prop} (ρ:List Nat) (h:Ctr P f args0 hp0 n0 Q)
  (hret:∀ v hp1 n1,n0≤n1→Q (.ret v) hp1 n1→GO P E N body (.op p (k + 1) r) ⟨putL s.fr d (ren (later (nth ρ) n0 s.nx) v),afterH s.hp hp0 hp1 ρ n0 s.nx,s.nx + (n1 - n0)⟩ K)
  (hh:ToC ρ n0 s.hp hp0:=by exact toCR) (hle:LeL args (renL (nth ρ) args0):=by exact LeL.refl _) (hpan:∀ v hp1 n1,¬ Q (.panic v) hp1 n1:=by intro _ _ _ h; simp at h)
  (hc:callAt N body p k s = some (f,args,d):=by kernel_rfl) (hρ:okC n0 ρ s.nx = true:=by kernel_rfl) (ha:ltNL n0 args0 = true:=by kernel_rfl):GO P E N body (.op p k r) s K :=
 go_call ρ h hc hle hρ ha hh hret (fun v hp1 n1 _ q=>absurd q (hpan v hp1 n1))
def nilAt (T:Tab) (N:Nat) (body:Code) (p k:Nat) (s:S):Option (Nat × Option Tmp) :=
 match codeAt p body with
 | some (.region _ ops false)=>match ops[k]? with
  | some o=>match guardAV ops (lk s.fr) o,dstOK N o.dst,o.op with
   | some true,true,.binOp .eql t x y _=>match opd (lk s.fr) x,opd (lk s.fr) y,T.k t with | some (.lst _ n _),some .nilSlice,some (.slice _)=>some (n,o.dst) | _,_,_=>none
   | _,_,_=>none
  | none=>none
 | _=>none
theorem go_isnil {T:Tab} {p k n:Nat} {r:List It} {s:S} {d:Option Tmp} (hT:T = Tab.of P) (hc:nilAt T N body p k s = some (n,d))
  (h1:n = 0→GO P E N body (.op p (k + 1) r) ⟨putL s.fr d (.bool true),s.hp,s.nx⟩ K) (h2:GO P E N body (.op p (k + 1) r) ⟨putL s.fr d (.bool false),s.hp,s.nx⟩ K):GO P E N body (.op p k r) s K:=by
 subst hT
 unfold nilAt at hc
 split at hc
 ·rename_i id ops hcd
  split at hc
  ·rename_i o ho
   split at hc
   ·rename_i t x y yt hg hd hop
    split at hc
    ·rename_i sz m f e hx hy hk
     simp only [Option.some.injEq,Prod.mk.injEq] at hc
     obtain ⟨rfl,rfl⟩:=hc
     simp only [GO,hcd] at h1 h2 ⊢
     have hl:ops.toList.drop k = o :: ops.toList.drop (k + 1):=by
      have hk:k < ops.toList.length:=by simpa using (Array.getElem?_eq_some_iff.1 ho).1
      rw [List.drop_eq_getElem_cons hk]
      congr 1
      have:=(Array.getElem?_eq_some_iff.1 ho).2
      simpa using this
     rw [hl]
     refine rw_isnil (s:=s.st) hop hx hy hk hg hd (fun h=>?_) ?_
     ·have:=h1 h
      simp only [S.st] at this
      rw [putL_lk] at this
      exact this
     ·have:=h2
      simp only [S.st] at this
      rw [putL_lk] at this
      exact this
    ·simp at hc
   ·simp at hc
  ·simp at hc
 ·simp at hc
end
end Go.SL
namespace Go.SL
open Go.RowKit
section
variable {P:Program} {E:Env} {F:Nat→Prop} {hm:Nat→Option Blk} {g g':G} {w:World} {N:Nat} {body:Code} {K:Ex→St→Prop}
def ctV (l m sz:Nat):AV→AV
 | .slice l' off n sz'=>if l' = l∧off = 0∧sz' = sz then .slice m 0 n sz else .slice l' off n sz'
 | v=>v
def ctVs (l m sz:Nat):AV→AV
 | .agg cs=>.agg (cs.map (ctV l m sz))
 | .tuple cs=>.tuple (cs.map (ctV l m sz))
 | v=>ctV l m sz v
def ctB (l m sz:Nat):Blk→Blk
 | .row ty cs=>.row ty (cs.map (ctV l m sz))
 | .mp es=>.mp es
theorem mem_cut (h:Mem P E F hm g w) {l k sz id:Nat} {ty:TypeId} {cs:List AV} (hid:F id) (hl:hm l = some (.row ty cs)) (hlen:k * sz≤cs.length) (hex:exB P ty = false) :
  ∃ g',g.le g'∧Mem P E (minus F id 1) (upd (upd hm l none) id (some (.row ty (cs.take (k * sz))))) g' w∧∀ n y,n = k→VR g (.slice l 0 n sz) y→VR g' (.slice id 0 n sz) y:=by
 rcases h.blk l _ hl with ⟨p,arr,hp,hb,h1,h2,h3,h4⟩ | ⟨hp,h1⟩
 ·obtain ⟨g',hle,hI,hμ,hM⟩:=mem_move h (off:=0) (n:=k * sz) hid hl hp (by omega) (by simp [ExTy,hex])
  refine ⟨g',hle,by simpa using hM,fun n y hn hy=>?_⟩
  subst hn
  cases hy with
  | slice _ _ _ _ c q hq hl' hk hc =>
   rw [hp] at hq; simp at hq; subst hq
   refine .slice id 0 n sz c ⟨p.block,p.base + 0,n * sz,p.lim⟩ hμ hl' ?_ ?_
   ·have:=Nat.mul_le_mul_right sz hl'; simpa using this
   ·simpa using hc
  | slice0 _ _ hq=>rw [hp] at hq; simp at hq
  | sliceZ _ _ _ a q hq hk ha=>exact .sliceZ id 0 sz a ⟨p.block,p.base + 0,0 * sz,p.lim⟩ hμ (by simp) ha
  | sliceN _ _ a hq ha=>rw [hp] at hq; simp at hq
 ·subst h1
  obtain ⟨g',hle,hI,hμ,hM⟩:=mem_noplace h (e:=ty) hid
  have hne:l ≠ id:=by rintro rfl; rw [h.fresh _ hid] at hp; simp at hp
  refine ⟨g',hle,?_,fun n y hn hy=>?_⟩
  ·refine hM.hsub fun j B e=>?_
   simp only [List.take_nil] at e
   by_cases hj:j = id
   ·subst hj; rw [upd_same] at e ⊢; exact e
   ·rw [upd_ne _ _ hj] at e ⊢
    by_cases hj2:j = l
    ·subst hj2; rw [upd_same] at e; simp at e
    ·rw [upd_ne _ _ hj2] at e; exact e
  ·cases hy with
   | slice _ _ _ _ c q hq=>rw [hp] at hq; simp at hq
   | slice0 _ _ hq=>exact .slice0 id sz hμ
   | sliceZ _ _ _ a q hq=>rw [hp] at hq; simp at hq
   | sliceN _ _ a hq ha=>exact .sliceN id sz a hμ ha
theorem VR.ctV {l m sz k:Nat} (hle:g.le g') (hz:∀ n y,n = k→VR g (.slice l 0 n sz) y→VR g' (.slice m 0 n sz) y) {v:AV} {x:Value} (hn:∀ j ∈ fzN l sz v,j = k) (h:VR g v x):VR g' (SL.ctV l m sz v) x:=by
 cases v with
 | slice l' off' len' sz' =>
  simp only [SL.ctV]
  simp only [fzN] at hn
  split
  ·rename_i e
   rw [if_pos e] at hn
   obtain ⟨rfl,rfl,rfl⟩:=e
   exact hz _ x (hn _ (by simp)) h
  ·exact h.mono hle
 | _=>exact h.mono hle
theorem VRs.ctV {l m sz k:Nat} (hle:g.le g') (hz:∀ n y,n = k→VR g (.slice l 0 n sz) y→VR g' (.slice m 0 n sz) y) {vs:List AV} {xs:List Value} (hn:∀ j ∈ vs.flatMap (fzN l sz),j = k) (h:VRs g vs xs):VRs g' (vs.map (SL.ctV l m sz)) xs:=by
 refine ⟨by simp [h.1],fun j v x a b=>?_⟩
 rw [List.getElem?_map] at a
 cases e:vs[j]? with
 | none=>rw [e] at a; simp at a
 | some u =>
  rw [e] at a; simp at a; subst a
  exact (h.2 j u x e b).ctV hle hz fun k hk=>hn k (List.mem_flatMap.2 ⟨u,List.mem_of_getElem? e,hk⟩)
theorem VR.ctVs {l m sz k:Nat} (hle:g.le g') (hz:∀ n y,n = k→VR g (.slice l 0 n sz) y→VR g' (.slice m 0 n sz) y) {v:AV} {x:Value} (hn:∀ j ∈ fzNs l sz v,j = k) (h:VR g v x):VR g' (SL.ctVs l m sz v) x:=by
 cases v with
 | agg cs =>
  cases h with
  | agg _ ys h1 hx =>
   have:=(vrs_of_arr h1 hx).ctV hle hz hn
   exact .agg _ _ (by simpa using this.1) fun j v x a b=>this.2 j v x a (by simpa using b)
 | tuple cs =>
  cases h with
  | tuple _ ys h1 hx =>
   have:=(vrs_of_arr h1 hx).ctV hle hz hn
   exact .tuple _ _ (by simpa using this.1) fun j v x a b=>this.2 j v x a (by simpa using b)
 | _=>first | exact VR.ctV (v:=.slice _ _ _ _) hle hz hn h | exact h.mono hle
def ctK (ws:List Nat) (l m sz:Nat) (j:Nat) (B:Blk):Blk:=if ws.contains j then ctB l m sz B else B
def ctS (l sz k:Nat) (ws:List Nat) (ty:TypeId) (cs:List AV) (s:S):S:=⟨s.fr.map fun p=>(p.1,ctVs l s.nx sz p.2),(s.nx,.row ty (cs.take (k * sz))) :: (delH l s.hp).map fun p=>(p.1,ctK ws l s.nx sz p.1 p.2),s.nx + 1⟩
def ctL (l sz:Nat) (ws:List Nat) (s:S):List Nat:=s.fr.flatMap (fun p=>fzNs l sz p.2) ++ (delH l s.hp).flatMap fun p=>if ws.contains p.1 then (match p.2 with | .row _ cs=>cs.flatMap (fzN l sz) | .mp _=>[]) else []
theorem lkh_mapK {h:Nat→Blk→Blk}:∀ {L:List (Nat × Blk)} {t:Nat} {v:Blk},lkh (L.map fun p=>(p.1,h p.1 p.2)) t = some v→∃ u,(t,u) ∈ L∧lkh L t = some u∧v = h t u
 | [],t,v,e=>by simp [lkh] at e
 | (k,u) :: r,t,v,e=>by
  simp only [List.map_cons,lkh_get] at e
  split at e
  ·rename_i h0; simp at e; subst e h0; exact ⟨u,by simp,by rw [lkh_get,if_pos rfl],rfl⟩
  ·rename_i h0
   obtain ⟨u',a,b,c⟩:=lkh_mapK e
   exact ⟨u',List.mem_cons_of_mem _ a,by rw [lkh_get,if_neg h0]; exact b,c⟩
theorem cv_cut {s:S} (l sz:Nat) (ty:TypeId) (cs:List AV) (k:Nat) (ws ks:List Nat) (hl:lkh s.hp l = some (.row ty cs)) (hlen:k * sz≤cs.length) (hex:exB P ty = false) (hL:ctL l sz ws s = ks) (hn:∀ j ∈ ks,j = k):Cv P E N s (ctS l sz k ws ty cs s):=fun g a w h=>by
 have hn':∀ j ∈ ctL l sz ws s,j = k:=hL ▸ hn
 obtain ⟨g',hle,hM,hz⟩:=mem_cut h.sim.mem (id:=s.nx) (.inl (Nat.le_refl _)) (hl:s.st.hm l = _) hlen hex
 have hsub:∀ l,(s.nx + 1≤l∨E.F l)→minus (fun l=>s.st.nx≤l∨E.F l) s.nx 1 l:=fun l hl=>by
  refine ⟨hl.elim (fun h=>.inl (by show s.nx≤l; omega)) .inr,fun hc=>?_⟩
  rcases hl with hl | hl
  ·omega
  ·have:=E.hF l hl; have:=h.nx; have e:s.st.nx = s.nx:=rfl; omega
 have hdef:∀ j B,s.st.hm j = some B→j ≠ s.nx:=fun j B e e2=>by
  subst e2
  obtain ⟨d,hd⟩:=(h.sim.mem.blk _ _ e).def
  have h2:=h.sim.mem.fresh s.nx (.inl (Nat.le_refl _)); rw [h2] at hd; simp at hd
 refine ⟨g',⟨h.sim.size,h.sim.defers,fun t v e=>?_,?_⟩,Nat.le_trans h.nx (Nat.le_succ _)⟩
 ·obtain ⟨u,hmem,hu,rfl⟩:=lk_map (h:=ctVs l s.nx sz) e
  obtain ⟨x,hx1,hx2⟩:=h.sim.fr t u hu
  exact ⟨x,hx1,hx2.ctVs hle hz fun k hk=>hn' k (List.mem_append.2 (.inl (List.mem_flatMap.2 ⟨(t,u),hmem,hk⟩)))⟩
 ·have hM:=hM.fsub hsub
  have key:∀ j B,(ctS l sz k ws ty cs s).st.hm j = some B→(j = s.nx∧B = .row ty (cs.take (k * sz)))∨(j ≠ s.nx∧∃ u,(j,u) ∈ delH l s.hp∧upd s.st.hm l none j = some u∧B = ctK ws l s.nx sz j u):=fun j B hk=>by
   have hk':lkh ((s.nx,.row ty (cs.take (k * sz))) :: (delH l s.hp).map fun p=>(p.1,ctK ws l s.nx sz p.1 p.2)) j = some B:=hk
   rw [lkh_get] at hk'
   split at hk'
   ·rename_i e; simp at hk'; exact .inl ⟨e,hk'.symm⟩
   ·rename_i e
    obtain ⟨u,hmem,hu,e'⟩:=lkh_mapK (h:=ctK ws l s.nx sz) hk'
    rw [lkh_del] at hu
    exact .inr ⟨e,u,hmem,hu,e'⟩
  have up:∀ j B,(ctS l sz k ws ty cs s).st.hm j = some B→∃ u,upd (upd s.st.hm l none) s.nx (some (.row ty (cs.take (k * sz)))) j = some u∧((j = s.nx∧B = u)∨(j ≠ s.nx∧B = ctK ws l s.nx sz j u)):=fun j B hk=>by
   rcases key j B hk with ⟨e,e2⟩ | ⟨e,u,_,hu,e2⟩
   ·exact ⟨_,by subst e; exact upd_same _ _ _,.inl ⟨e,e2⟩⟩
   ·exact ⟨u,by rw [upd_ne _ _ e]; exact hu,.inr ⟨e,e2⟩⟩
  exact { hM with
   blk:=fun j B hk=>by
    rcases key j B hk with ⟨rfl,rfl⟩ | ⟨e,u,hmem,hu,rfl⟩
    ·exact hM.blk _ _ (upd_same _ _ _)
    ·have hb:BlkOK P g' w j u:=hM.blk j u (by rw [upd_ne _ _ e]; exact hu)
     have hb0:BlkOK P g w j u:=by
      by_cases e:j = l
      ·subst e; rw [upd_same] at hu; simp at hu
      ·rw [upd_ne _ _ e] at hu; exact h.sim.mem.blk j u hu
     unfold ctK
     split
     case isFalse=>exact hb
     rename_i hws
     cases u with
     | row ty' cs' =>
      rcases hb0 with ⟨q,arr,hq,hb',h1,h2,h3,h4⟩ | ⟨hq,h1⟩
      ·refine .inl ⟨q,arr,hle.1 _ _ hq,hb',h1,by simpa using h2,by simpa using h3,fun i v e=>?_⟩
       rw [List.getElem?_map] at e
       cases hcj:cs'[i]? with
       | none=>rw [hcj] at e; simp at e
       | some u =>
        rw [hcj] at e; simp at e; subst e
        obtain ⟨x,ex,hx⟩:=h4 i u hcj
        refine ⟨x,ex,hx.ctV hle hz fun k' hk'=>hn' k' (List.mem_append.2 (.inr (List.mem_flatMap.2 ⟨_,hmem,?_⟩)))⟩
        show k' ∈ (if ws.contains j = true then cs'.flatMap (fzN l sz) else [])
        rw [if_pos hws]
        exact List.mem_flatMap.2 ⟨u,List.mem_of_getElem? hcj,hk'⟩
      ·exact .inr ⟨hle.1 _ _ hq,by simp [h1]⟩
     | mp es=>exact hb
   sep:=fun k k' B B' p p' hk hk'=>by
    obtain ⟨u,hu,_⟩:=up k B hk
    obtain ⟨u',hu',_⟩:=up k' B' hk'
    exact hM.sep k k' u u' p p' hu hu'
   sepI:=fun k B p hk=>by
    obtain ⟨u,hu,_⟩:=up k B hk
    exact hM.sepI k u p hu
   own:=fun k B p hk=>by
    obtain ⟨u,hu,_⟩:=up k B hk
    exact hM.own k u p hu
   exact:=fun k ty' cs' p hk hq he=>by
    obtain ⟨u,hu,e⟩:=up k _ hk
    rcases e with ⟨_,rfl⟩ | ⟨_,e⟩
    ·exact hM.exact k _ _ p hu hq he
    ·unfold ctK at e
     split at e
     case isFalse=>subst e; exact hM.exact k _ _ p hu hq he
     cases u with
     | mp es=>simp [ctB] at e
     | row ty2 cs2 =>
      simp only [ctB,Blk.row.injEq] at e
      obtain ⟨rfl,rfl⟩:=e
      have:=hM.exact k _ cs2 p hu hq he
      simpa using this }
def fzK (ws:List Nat) (l sz:Nat) (f:Nat→List AV) (j:Nat) (B:Blk):Blk:=if ws.contains j then fzB l sz f B else B
def fzW (l sz:Nat) (f:Nat→List AV) (ws:List Nat) (s:S):S:=⟨s.fr.map fun p=>(p.1,fzVs l sz f p.2),(delH l s.hp).map fun p=>(p.1,fzK ws l sz f p.1 p.2),s.nx⟩
theorem cv_freezeW {s:S} (l sz:Nat) (ty:TypeId) (cs:List AV) (n:Nat) (f:Nat→List AV) (ws ks:List Nat) (hl:lkh s.hp l = some (.row ty cs)) (hc:ltNL 0 cs = true) (hlen:cs.length = n * sz) (hx:∀ i,i < n→(cs.drop (i * sz)).take sz = f i) (hL:ctL l sz ws s = ks) (hn:∀ k ∈ ks,k≤n):Cv P E N s (fzW l sz f ws s):=fun g a w h=>by
 have hn':∀ k ∈ ctL l sz ws s,k≤n:=hL ▸ hn
 obtain ⟨g',hle,hM,hz⟩:=mem_freeze h.sim.mem (hl:s.st.hm l = _) hc hlen hx
 refine ⟨g',⟨h.sim.size,h.sim.defers,fun t v e=>?_,?_⟩,h.nx⟩
 ·obtain ⟨u,hmem,hu,rfl⟩:=lk_map (h:=fzVs l sz f) e
  obtain ⟨x,hx1,hx2⟩:=h.sim.fr t u hu
  exact ⟨x,hx1,hx2.fzVs hle hz fun k hk=>hn' k (List.mem_append.2 (.inl (List.mem_flatMap.2 ⟨(t,u),hmem,hk⟩)))⟩
 ·have key:∀ k B,(fzW l sz f ws s).st.hm k = some B→∃ u,(k,u) ∈ delH l s.hp∧upd s.st.hm l none k = some u∧B = fzK ws l sz f k u:=fun k B hk=>by
   obtain ⟨u,hmem,hu,e⟩:=lkh_mapK (h:=fzK ws l sz f) hk
   rw [lkh_del] at hu
   exact ⟨u,hmem,hu,e⟩
  exact { hM with
   blk:=fun k B hk=>by
    obtain ⟨u,hmem,hu,rfl⟩:=key k B hk
    have hb:=hM.blk k u hu
    have hb0:BlkOK P g w k u:=by
     by_cases e:k = l
     ·subst e; rw [upd_same] at hu; simp at hu
     ·rw [upd_ne _ _ e] at hu; exact h.sim.mem.blk k u hu
    unfold fzK
    split
    case isFalse=>exact hb
    rename_i hws
    cases u with
    | row ty' cs' =>
     rcases hb0 with ⟨q,arr,hq,hb',h1,h2,h3,h4⟩ | ⟨hq,h1⟩
     ·refine .inl ⟨q,arr,hle.1 _ _ hq,hb',h1,by simpa using h2,by simpa using h3,fun j v e=>?_⟩
      rw [List.getElem?_map] at e
      cases hcj:cs'[j]? with
      | none=>rw [hcj] at e; simp at e
      | some u =>
       rw [hcj] at e; simp at e; subst e
       obtain ⟨x,ex,hx⟩:=h4 j u hcj
       refine ⟨x,ex,hx.fzV hle hz fun k' hk'=>hn' k' (List.mem_append.2 (.inr (List.mem_flatMap.2 ⟨_,hmem,?_⟩)))⟩
       show k' ∈ (if ws.contains k = true then cs'.flatMap (fzN l sz) else [])
       rw [if_pos hws]
       exact List.mem_flatMap.2 ⟨u,List.mem_of_getElem? hcj,hk'⟩
     ·exact .inr ⟨hle.1 _ _ hq,by simp [h1]⟩
    | mp es=>exact hb
   sep:=fun k k' B B' p p' hk hk'=>by
    obtain ⟨u,_,hu,rfl⟩:=key k B hk
    obtain ⟨u',_,hu',rfl⟩:=key k' B' hk'
    exact hM.sep k k' u u' p p' hu hu'
   sepI:=fun k B p hk=>by
    obtain ⟨u,_,hu,rfl⟩:=key k B hk
    exact hM.sepI k u p hu
   own:=fun k B p hk=>by
    obtain ⟨u,_,hu,rfl⟩:=key k B hk
    exact hM.own k u p hu
   exact:=fun k ty' cs' p hk hq he=>by
    obtain ⟨u,_,hu,e⟩:=key k _ hk
    unfold fzK at e
    split at e
    case isFalse=>subst e; exact hM.exact k _ _ p hu hq he
    cases u with
    | mp es=>simp [fzB] at e
    | row ty2 cs2 =>
     simp only [fzB,Blk.row.injEq] at e
     obtain ⟨rfl,rfl⟩:=e
     have:=hM.exact k _ cs2 p hu hq he
     simpa using this }
end
end Go.SL
namespace Go.SL
open Go.RowKit
section
variable {P:Program}
abbrev nI (n:Nat):AV:=.int .i64 (n:Int)
abbrev iI (n:Int):AV:=.int .i64 n
theorem aD {p:Prop} [inst:Decidable p] {r:List Cnd} (h:p) (k:AllT r):AllT (.b (decide p) :: r):=⟨decide_eq_true h,k⟩
theorem aR {i:Int} {r:List Cnd} (h1:-9223372036854775808≤i) (h2:i≤9223372036854775807) (k:AllT r):AllT (.b (rng i) :: r):=⟨rng_ok h1 h2,k⟩
theorem wpList_app {ops:Array Oper} {Q1 Q:Exit→Act→World→Prop} {l2:List Oper} (hn:∀ a w,Q1 .normal a w→wpList P ops Q l2 a w) (hq:∀ e a w,e ≠ .normal→Q1 e a w→Q e a w) :
  ∀ (l1:List Oper) (a:Act) (w:World),wpList P ops Q1 l1 a w→wpList P ops Q (l1 ++ l2) a w
 | [],a,w,h=>hn a w h
 | o :: l1,a,w,h=>by
  have ih:=wpList_app hn hq l1
  have hl:LetsOut Q1→LetsOut Q:=fun ⟨a,w,h⟩=>⟨a,w,hq _ _ _ (by simp) h⟩
  simp only [List.cons_append,wpList] at h ⊢
  split
  ·rename_i hw
   rw [if_pos hw] at h
   rcases h with h | h
   ·refine .inl ?_
    unfold Oper.wp at *
    generalize (execOp a.eval o).run P w = r at *
    cases r with
    | ok n w' =>
     cases n <;> simp only [Oper.upon] at h ⊢ <;>
      first
       | exact ih _ _ h
       | exact Calls.mono h (fun e w'' he=>by cases e <;> first | exact ih _ _ he | exact hq _ _ _ (by simp) he | exact hl he)
       | exact Rows.mono h (fun _ _ he=>ih _ _ he)
    | halt x w'=>cases x <;> simp only [Oper.upon] at h ⊢ <;> first | exact hq _ _ _ (by simp) h | exact h
   ·exact .inr ⟨h.1,hl h.2⟩
  ·rename_i hw
   rw [if_neg hw] at h
   exact ih _ _ h
def Idle (P:Program) (f:FuncId) (n:Nat):Prop:=∀ (xs:Array Value) (w:World),xs.size = n→CallsD P f xs .returning w fun e u' w'=>(∃ v,e = .returned v)∧u' = .returning∧w' = w
theorem ctr_defer {f fd:FuncId} {fn:Func} {c:Code} {args caps:List AV} {hp:List (Nat × Blk)} {n:Nat} {Q:Ret→List (Nat × Blk)→Nat→Prop} (hf:P.funcs[f]? = some fn) (hb:fn.body = some c) (hok:callOK P f = true) {N:Nat} (hnt:fn.ntmps = N) (hn:Nat.ble args.length N = true)
  {rs:List ResultVar} (hrs:fn.results.toList = rs) {id:Nat} {ops:Array Oper} {c0 rest:Code} (hc:c = .seq c0 (.seq (.region id ops false) rest)) (k:Nat) {o:Oper} {x:Operand} {ats:Array TypeId} (ho:ops[k]? = some o) (hop:o.op = .defer ⟨.value x,#[],ats⟩) (hg:o.guard = none) (hdst:o.dst = none)
  (s0 s1:S) (h0:∀ (E:Env) (K:Ex→St→Prop),E.n0 = n→K .normal s0.st→GO P E N c (.go [.c 2 none]) ⟨argsL 0 args,hp,n⟩ K) (hpre:runR P N ops (ops.toList.take k) s0.st = ([],s1.st)) (hx:opd (lk s1.fr) x = some (.func (.func fd) [] caps)) (hfd:callOK P fd = true) (hidle:Idle P fd caps.length) (hn1:n≤s1.nx)
  (h:∀ E:Env,E.n0 = s1.nx→GO P E N c (.op 6 (k + 1) [.c 7 none]) s1 (FQ P n rs fun r hp1 n1=>(∃ v,r = .ret v)∧Q r hp1 n1)):Ctr P f args hp n Q:=by
 subst hnt hrs
 have hn:args.length≤fn.ntmps:=Nat.le_of_ble_eq_true hn
 refine ⟨hok,fun E F g w xs hF hM hv=>?_⟩
 have hwf:∀ l B,lkh hp l = some B→l < n:=fun l B hl=>by
  rcases Nat.lt_or_ge l n with h0 | h0
  ·exact h0
  ·obtain ⟨d,hd⟩:=(hM.blk l B hl).def
   rw [hM.fresh l (hF l h0)] at hd; simp at hd
 subst hc
 refine calls_of_wp_defers hf hb (wp_seq ?_)
 have hlen:xs.length = args.length:=hv.1.symm
 have hops:ops.toList = ops.toList.take k ++ (o :: ops.toList.drop (k + 1)):=by
  have hk:k < ops.toList.length:=by simpa using (Array.getElem?_eq_some_iff.1 ho).1
  have h2:ops.toList.drop k = o :: ops.toList.drop (k + 1):=by
   rw [List.drop_eq_getElem_cons hk]
   congr 1
   have:=(Array.getElem?_eq_some_iff.1 ho).2
   simpa using this
  rw [← h2,List.take_append_drop]
 let E':Env:={ w:=E.w,g:=g,K:=E.K,F:=fun l=>F l∧l < n,n0:=n,hF:=fun l hl=>hl.2,hg:=fun l hl=>hM.fresh l (hF l hl),D:=[] }
 have hs:Sm P E' fn.ntmps ⟨lk (argsL 0 args),lkh hp,n⟩ g { tmps:=xs.toArray ++ Array.replicate (fn.ntmps - xs.toArray.size) undef,defers:=[] } w:=by
  rw [← argsFr_eq]
  refine ⟨⟨by simp; omega,rfl,fun t v e=>?_,?_⟩,Nat.le_refl _⟩
  ·obtain ⟨x,hx,hvx⟩:=hv.get e
   have ht:t < xs.length:=(List.getElem?_eq_some_iff.1 hx).1
   refine ⟨x,?_,hvx⟩
   rw [Array.getElem?_append_left (by simpa using ht)]
   simpa using hx
  ·exact { hM with
    fresh:=fun l hl=>hM.fresh l (hl.elim (hF l) And.left)
    le0:=G.le_refl g
    immNew:=fun b o x e=>.inl e }
 have hc0:codeAt 2 (.seq c0 (.seq (.region id ops false) rest)) = some c0:=rfl
 have h00:=aw_go hc0 (h0 E' (fun e s=>e = .normal∧s = s0.st) rfl ⟨rfl,rfl⟩) g _ w hs
 refine wp_mono h00 fun e a0 w0 ⟨y,s,g0,q1,⟨q2,q3⟩,hs0⟩=>?_
 subst q2
 cases e <;> first | exact q1.elim | skip
 subst q3
 show Code.wp P (.seq (.region id ops false) rest) _ a0 w0
 refine wp_seq (wp_region_list ?_)
 have h1:=rw_run (P:=P) (E:=E') (N:=fn.ntmps) (ops:=ops) (K:=fun e s=>e = .normal∧s = s1.st) hpre (rw_nil ⟨rfl,rfl⟩) g0 _ w0 hs0
 rw [hops]
 refine wpList_app (fun a1 w1 hq=>?_) (fun e a w hne ⟨y,s,g',q1,⟨q2,_⟩,_⟩=>?_) _ _ _ h1
 case refine_2=>subst q2; cases e <;> first | exact q1.elim | exact absurd rfl hne
 obtain ⟨y,s,g1,_,⟨_,rfl⟩,h3⟩:=hq
 have hvx:=opd_ok h3.sim hx
 cases he:a1.eval x <;> rw [he] at hvx <;> cases hvx
 rename_i ys zs e1 e2 e3 e4
 have hys:ys = #[]:=by
  have:ys.size = 0:=by simpa using e1.symm
  exact Array.eq_empty_of_size_eq_zero this
 subst hys
 simp only [wpList]
 rw [if_pos (by simp [Region.wanted,hg])]
 refine .inl ?_
 have hrun:(execOp a1.eval o).run P w1 = .ok (.defer { target:=.fn (.func fd) zs,args:=#[] ++ (#[]:Array Operand).map a1.eval }) w1:=by
  simp [execOp,hop,resolve,he,Deferred.ofValue]
 unfold Oper.wp
 rw [hrun]
 simp only [Oper.upon,hdst,Act.put]
 have hd0:a1.defers = []:=h3.sim.defers
 let d:Deferred:={ target:=.fn (.func fd) zs,args:=#[] ++ (#[]:Array Operand).map a1.eval }
 have hsmem:Mem P E' (fun l=>s1.nx≤l∨(F l∧l < n)) (lkh s1.hp) g1 w1:=h3.sim.mem
 let E2:Env:={ w:=E.w,g:=g1,K:=E.K,F:=fun l=>(F l∧l < n)∧l < s1.nx,n0:=s1.nx,hF:=fun l hl=>hl.2,hg:=fun l hl=>hsmem.fresh l (.inl hl),D:=[d] }
 have hs2:Sm P E2 fn.ntmps s1.st g1 { a1 with defers:=d :: a1.defers } w1:=by
  refine ⟨⟨h3.sim.size,by show d :: a1.defers = [d]; rw [hd0],h3.sim.fr,?_⟩,Nat.le_refl _⟩
  exact { hsmem with
   fresh:=fun l hl=>hsmem.fresh l (hl.elim .inl fun q=>.inr q.1)
   le0:=G.le_refl g1
   immNew:=fun b o x e=>.inl e }
 have up:∀ {F0:Nat→Prop} {hm:Nat→Option Blk} {g':G} {w':World},Mem P E2 F0 hm g' w'→Mem P E F0 hm g' w'∧g.le g':=fun hh=>by
  have hle1:g.le g1:=hsmem.le0
  refine ⟨{ hh with
   le0:=G.le_trans hM.le0 (G.le_trans hle1 hh.le0)
   immNew:=fun b o x e=>by
    rcases hh.immNew b o x e with q | q
    ·rcases hsmem.immNew b o x q with q | q
     ·exact hM.immNew b o x q
     ·exact .inr q
    ·exact .inr q },G.le_trans hle1 hh.le0⟩
 have hcA:codeAt 6 (.seq c0 (.seq (.region id ops false) rest)) = some (.region id ops false):=rfl
 have hcB:codeAt 7 (.seq c0 (.seq (.region id ops false) rest)) = some rest:=rfl
 have hrest:=h E2 rfl
 simp only [GO,hcA] at hrest
 have hdrop:=hrest g1 _ w1 hs2
 have fin:∀ {l:List AV} {hm':Nat→Option Blk} {a':Act} {w':World} {s':St} {g':G},Sm P E2 fn.ntmps s' g' a' w'→resAV P s' fn.results.toList = some l→(∀ k B,hm' k = some B→s'.hm k = some B)→n≤s'.nx→(∃ hp1,hm' = lkh hp1∧(∃ v,Ret.ret (oneOf l) = .ret v)∧Q (.ret (oneOf l)) hp1 s'.nx) →
   Leaves P fn a'.tmps (fun e w'=>∃ r hm' nx' g',RetOK g' r e∧Mem P E (fun l=>F l∧¬ (n≤l∧l < nx')) hm' g' w'∧g.le g'∧n≤nx'∧∃ hp1,hm' = lkh hp1∧Q r hp1 nx') a'.defers .returning w':=by
  intro l hm' a' w' s' g' h3 hl hh hnx ⟨hp1,e,_,hq⟩
  obtain ⟨ys,hr,hvs⟩:=res_ok h3 hl
  have hn1':s1.nx≤s'.nx:=h3.nx
  obtain ⟨hm1,hm2⟩:=up ((h3.sim.mem.hsub hh).fsub (F':=fun l=>F l∧¬ (n≤l∧l < s'.nx)) fun l hl=>by
   by_cases h0:s'.nx≤l
   ·exact .inl h0
   ·exact .inr ⟨⟨hl.1,by have:=hl.2; omega⟩,by have:=hl.2; omega⟩)
  have hdd:a'.defers = [d]:=h3.sim.defers
  rw [hdd]
  refine leaves_cons (f:=fd) (args:=(#[] ++ (#[]:Array Operand).map a1.eval) ++ zs) (by simp) (by simp only [invoke,callFunc_ok hfd]) ?_
  refine (hidle _ w' (by simp [← e3])).mono ?_
  rintro e u' w'' ⟨⟨v,rfl⟩,rfl,rfl⟩
  refine ⟨if h:ys.toArray.size = 1 then ys.toArray[0] else .tuple ys.toArray,?_,.ret (oneOf l),hm',s'.nx,g',?_,hm1,hm2,hnx,hp1,e,hq⟩
  ·have:(fn.results.mapM (resSem a'.tmps)).run P w'' = .ok ys.toArray w'':=by
    rw [Array.mapM_eq_mapM_toList,Sem.run_map,hr]; rfl
   have e:(results fn a'.tmps) = (do let vs ← fn.results.mapM (resSem a'.tmps); Pure.pure (if h:vs.size = 1 then vs[0] else .tuple vs)):=by
    unfold results
    congr 1
   rw [e]
   simp only [Sem.run_bind,this,Result.andThen_ok,Sem.run_pure]
  ·show VR g' _ _
   match l,ys,hvs with
   | [v],[y],hvs=>simpa [oneOf] using hvs.2 0 v y rfl rfl
   | [],[],hvs=>simpa [oneOf] using VR.tuple (g:=g') [] #[] rfl (by simp)
   | v :: u :: l,y :: z :: ys,hvs =>
    have:¬ (y :: z :: ys).toArray.size = 1:=by simp
    rw [dif_neg this]
    exact .tuple _ _ (by simpa using hvs.1) fun j p q a b=>hvs.2 j p q a (by simpa using b)
   | [],_ :: _,hvs=>exact absurd hvs.1 (by simp)
   | [_],[],hvs=>exact absurd hvs.1 (by simp)
   | [_],_ :: _ :: _,hvs=>exact absurd hvs.1 (by simp)
   | _ :: _ :: _,[],hvs=>exact absurd hvs.1 (by simp)
   | _ :: _ :: _,[_],hvs=>exact absurd hvs.1 (by simp)
 have wrap:=wpList_app (P:=P) (ops:=ops) (l2:=[]) (Q:=Exit.then (rest.wp P (bodyPostD P fn fun e w'=>∃ r hm' nx' g',RetOK g' r e∧Mem P E (fun l=>F l∧¬ (n≤l∧l < nx')) hm' g' w'∧g.le g'∧n≤nx'∧∃ hp1,hm' = lkh hp1∧Q r hp1 nx')) (bodyPostD P fn fun e w'=>∃ r hm' nx' g',RetOK g' r e∧Mem P E (fun l=>F l∧¬ (n≤l∧l < nx')) hm' g' w'∧g.le g'∧n≤nx'∧∃ hp1,hm' = lkh hp1∧Q r hp1 nx')) (fun a w hq=>?_) (fun e a w hne hq=>?_) _ _ _ hdrop
 ·rw [List.append_nil] at wrap; exact wrap
 ·-- on to the rest of the body
  obtain ⟨y,s',g',q1,q2,q3⟩:=hq
  cases y <;> first | exact q1.elim | skip
  simp only [KK,hcB] at q2
  show rest.wp P _ a w
  refine wp_mono (q2 g' a w q3) fun e a' w' ⟨x,s',g',q1,q2,q3⟩=>?_
  cases x with
  | normal =>
   obtain ⟨l,hm',hl,hh,hnx,hq⟩:=q2
   cases e <;> first | exact q1.elim | exact fin q3 hl hh hnx hq
  | ret =>
   obtain ⟨l,hm',hl,hh,hnx,hq⟩:=q2
   cases e <;> first | exact q1.elim | exact fin q3 hl hh hnx hq
  | panic v =>
   obtain ⟨hm',hh,hnx,hp1,e',⟨v',e2⟩,_⟩:=q2
   simp at e2
  | exit id=>exact q2.elim
  | goto l=>exact q2.elim
 ·-- out of the region
  obtain ⟨x,s',g',q1,q2,q3⟩:=hq
  cases x with
  | normal=>cases e <;> first | exact q1.elim | exact absurd rfl hne
  | ret =>
   obtain ⟨l,hm',hl,hh,hnx,hq⟩:=q2
   cases e <;> first | exact q1.elim | exact fin q3 hl hh hnx hq
  | panic v =>
   obtain ⟨hm',hh,hnx,hp1,e',⟨v',e2⟩,_⟩:=q2
   simp at e2
  | exit id=>exact q2.elim
  | goto l=>exact q2.elim
end
abbrev ixB (k:Int) (n:Nat):Bool:=decide ((0:Int)≤k∧k < (n:Int))
theorem dF {p:Prop} [Decidable p] (h:¬ p):AV.bool (decide p) = AV.bool false:=congrArg AV.bool (decide_eq_false h)
theorem dT {p:Prop} [Decidable p] (h:p):AV.bool (decide p) = AV.bool true:=congrArg AV.bool (decide_eq_true h)
abbrev cN (p:Nat):It:=.c p none
end Go.SL
namespace Go.SL
open Go.RowKit
theorem Mem.below {P:Program} {E:Env} {F:Nat→Prop} {hm:Nat→Option Blk} {g:G} {w w':World} (h:Mem P E F hm g w) (hb:Below w.heap.size w w'):Mem P E F hm g w' :=
 { h with
  blk:=fun l B hl=>(h.blk l B hl).mono (G.le_refl g) fun p hp=>hb.block _ (h.lt hl hp)
  imm:=fun b o x hx=>by
   have:=h.imm b o x hx
   rw [← this]
   simp [World.cell?,hb.block b (imm_lt this)]
  os:=hb.os.trans h.os
  tape:=hb.tape.trans h.tape
  output:=hb.output.trans h.output
  size:=Nat.le_trans h.size hb.size
  keep:=fun b hb' hK=>(hb.block b (Nat.lt_of_lt_of_le hb' h.size)).trans (h.keep b hb' hK) }
theorem pureT_of {P:Program} {f:FuncId} {args:List AV} {v:AV} (hok:callOK P f = true) (h:∀ (g:G) (w:World) (xs:List Value),VRs g args xs→GL P w→Calls P f xs.toArray w fun e w'=>∃ x,e = .returned x∧VR g v x∧Below w.heap.size w w'):PureT P f args v:=fun hm nx =>
 ⟨hok,fun E F g w xs hF hM hv=>(h g w xs hv hM.glob).mono fun e w' ⟨x,he,hx,hb⟩=>by
  subst he
  exact ⟨.ret v,hm,nx,g,hx,(hM.below hb).fsub fun l hl=>hl.1,G.le_refl g,Nat.le_refl _,rfl,rfl⟩⟩
end Go.SL
namespace Go.SL
theorem go_cut {P:Program} {E:Env} {N:Nat} {body:Code} {K:Ex→St→Prop} {ps:Pos} {s:S} (ps2:Pos) (s2:S) (h:GO P E N body ps2 s2 K→GO P E N body ps s K) (k:GO P E N body ps2 s2 K):GO P E N body ps s K:=h k
end Go.SL
