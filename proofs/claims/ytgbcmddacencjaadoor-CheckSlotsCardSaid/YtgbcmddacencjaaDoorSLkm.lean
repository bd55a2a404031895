import Derived.Test.YtgbcmddacencjaaDoorSLqm
import Derived.Orders
set_option linter.unusedSimpArgs false
set_option linter.unusedVariables false
namespace Go.SL
open Go.RowKit
def locOf:AV→List Nat
  | .ptr l _=>[l] | .slice l _ _ _=>[l] | .map l=>[l] | _=>[]
def locsO:Option AV→List Nat | some v=>locOf v | none=>[]
def touch (ρ:Operand→Option AV) (o:Op):List Nat:=o.operands.toList.flatMap fun x=>locsO (ρ x)
theorem mem_touch {ρ:Operand→Option AV} {o:Op} {x:Operand} {v:AV} {l:Nat} (hx:x ∈ o.operands.toList) (hv:ρ x = some v) (hl:l ∈ locOf v):l ∈ touch ρ o :=
  List.mem_flatMap.2 ⟨x,hx,by rw [hv]; exact hl⟩
theorem opsAV_congr {ρ ρ':Operand→Option AV}:∀ {l:List Operand},(∀ x ∈ l,ρ' x = ρ x)→opsAV ρ' l = opsAV ρ l
  | [],_=>rfl
  | x :: l,h=>by simp only [opsAV]; rw [h x (by simp),opsAV_congr fun y hy=>h y (by simp [hy])]
theorem opds_congr {ρ ρ':Operand→Option AV}:∀ {l:List (Nat × Operand)},(∀ x ∈ l.map (·.2),ρ' x = ρ x)→opds ρ' l = opds ρ l
  | [],_=>rfl
  | (i,x) :: l,h=>by simp only [opds]; rw [h x (by simp),opds_congr fun y hy=>h y (by simp only [List.map_cons,List.mem_cons]; exact .inr hy)]
theorem deref_congr {hm hm':Nat→Option Blk} {v:AV} (h:∀ l ∈ locOf v,hm' l = hm l):deref hm' v = deref hm v:=by
  cases v <;> simp only [deref]
  rename_i l off
  rw [h l (by simp [locOf])]
theorem elems_congr {hm hm':Nat→Option Blk} {sz:Nat} {v:AV} (h:∀ l ∈ locOf v,hm' l = hm l):elems hm' sz v = elems hm sz v:=by
  cases v <;> simp only [elems]
  rename_i l off len sz'
  rw [h l (by simp [locOf])]
theorem elemsX_congr {k:TK} {hm hm':Nat→Option Blk} {sz:Nat} {v:AV} (h:∀ l ∈ locOf v,hm' l = hm l):elemsX k hm' sz v = elemsX k hm sz v:=by
  cases k <;> first | exact elems_congr h | rfl | (cases v <;> rfl)
theorem append_congr {P:Program} {t t2:TypeId} {hm hm':Nat→Option Blk} {id:Nat} {s x:AV} (h1:∀ l ∈ locOf s,hm' l = hm l) (h2:∀ l ∈ locOf x,hm' l = hm l):evAppend P t t2 hm' id s x = evAppend P t t2 hm id s x:=by
  simp only [evAppend,elemsX_congr h2]
  cases s with
  | slice l off len sz=>have:=h1 l (by simp [locOf]); simp only [this]
  | _=>rfl
theorem ent_congr {hm hm':Nat→Option Blk} {v:AV} (h:∀ l ∈ locOf v,hm' l = hm l):entAV hm' v = entAV hm v:=by
  cases v <;> simp only [entAV]
  rename_i l
  rw [h l (by simp [locOf])]
theorem optInt_congr {ρ ρ':Operand→Option AV} {x:Option Operand} (h:∀ y,x = some y→ρ' y = ρ y):optInt ρ' x = optInt ρ x:=by
  cases x with
  | none=>rfl
  | some y=>simp only [optInt]; rw [h y rfl]
theorem evBuiltin_congr {P:Program} {b:Builtin} {ts:List TypeId} {hm hm':Nat→Option Blk} {id:Nat} {args:List AV} (h:∀ v ∈ args,∀ l ∈ locOf v,hm' l = hm l):evBuiltin P b ts hm' id args = evBuiltin P b ts hm id args:=by
  unfold evBuiltin
  split
  · split
    · rename_i l
      rw [h (.map l) (by simp) l (by simp [locOf])]
    · rfl
  · rename_i s x
    exact append_congr (h s (by simp)) (h x (by simp))
  · rfl
  · rfl
  · rfl
theorem conv_congr {P:Program} {hm hm':Nat→Option Blk} {s d:TypeId} {v:AV} (h:∀ l ∈ locOf v,hm' l = hm l):convAV P hm' s d v = convAV P hm s d v:=by
  unfold convAV
  split
  · rfl
  · rfl
  · rename_i l; rw [h l (by simp [locOf])]
  · rw [elems_congr h]
theorem evBuiltin2_congr {P:Program} {b:Builtin} {ts:List TypeId} {hm hm':Nat→Option Blk} {id:Nat} {args:List AV} (h:∀ v ∈ args,∀ l ∈ locOf v,hm' l = hm l):evBuiltin2 P b ts hm' id args = evBuiltin2 P b ts hm id args:=by
  unfold evBuiltin2
  split
  · rfl
  · rename_i l off n; rw [h (.ptr l off) (by simp) l (by simp [locOf])]
  · rename_i l off len sz; rw [h (.slice l off len sz) (by simp) l (by simp [locOf])]
  · rfl
  · rfl
  · rfl
theorem opsAV_mem {ρ:Operand→Option AV}:∀ {l:List Operand} {vs:List AV},opsAV ρ l = some vs→∀ v ∈ vs,∃ x ∈ l,ρ x = some v
  | [],vs,h,v,hv=>by simp [opsAV] at h; subst h; simp at hv
  | x :: l,vs,h,v,hv=>by
    simp only [opsAV] at h
    split at h
    · rename_i u us h1 h2
      simp at h; subst h
      simp at hv
      rcases hv with rfl | hv
      · exact ⟨x,by simp,h1⟩
      · obtain ⟨y,a,b⟩:=opsAV_mem h2 v hv; exact ⟨y,by simp [a],b⟩
    · simp at h
theorem evOp_congr {P:Program} {o:Op} {ρ ρ':Operand→Option AV} {hm hm':Nat→Option Blk} {id:Nat} (h1:∀ x ∈ o.operands.toList,ρ' x = ρ x) (h2:∀ l ∈ touch ρ o,hm' l = hm l):evOp P o ρ' hm' id = evOp P o ρ hm id:=by
  have hl:∀ x ∈ o.operands.toList,∀ v,ρ x = some v→∀ l ∈ locOf v,hm' l = hm l:=fun x hx v hv l hl=>h2 l (mem_touch hx hv hl)
  cases o with
  | move x=>simp only [evOp]; rw [h1 x (by simp [Op.operands])]
  | assign x=>simp only [evOp]; rw [h1 x (by simp [Op.operands])]
  | pick c a b=>simp only [evOp]; rw [h1 c (by simp [Op.operands]),h1 a (by simp [Op.operands]),h1 b (by simp [Op.operands])]
  | box t x=>simp only [evOp]; rw [h1 x (by simp [Op.operands])]
  | build t ps=>simp only [evOp]; rw [opds_congr fun x hx=>h1 x (by simpa [Op.operands] using hx)]
  | buildSlice t n ps=>simp only [evOp]; rw [opds_congr fun x hx=>h1 x (by simpa [Op.operands] using hx)]
  | load t a =>
    simp only [evOp]; rw [h1 a (by simp [Op.operands])]
    cases hv:ρ a with
    | none=>rfl
    | some v=>simp only; rw [deref_congr (hl a (by simp [Op.operands]) v hv)]
  | store t a x =>
    simp only [evOp]; rw [h1 a (by simp [Op.operands]),h1 x (by simp [Op.operands])]
    cases hv:ρ a with
    | none=>rfl
    | some v =>
      cases v with
      | ptr l off=>have:=hl a (by simp [Op.operands]) _ hv l (by simp [locOf]); cases ρ x with | none=>rfl | some u=>simp only [this]
      | _=>rfl
  | nilCheck x=>simp only [evOp]; rw [h1 x (by simp [Op.operands])]
  | binOp op t x y yt=>simp only [evOp]; rw [h1 x (by simp [Op.operands]),h1 y (by simp [Op.operands])]
  | unOp op t x=>simp only [evOp]; rw [h1 x (by simp [Op.operands])]
  | convert s d x =>
    simp only [evOp]; rw [h1 x (by simp [Op.operands])]
    cases hv:ρ x with
    | none=>rfl
    | some v=>simp only; rw [conv_congr (hl x (by simp [Op.operands]) v hv)]
  | makeInterface t x=>simp only [evOp]; rw [h1 x (by simp [Op.operands])]
  | makeFunc fn fs cs =>
    simp only [evOp]
    rw [opsAV_congr fun x hx=>h1 x (by simp [Op.operands]; exact .inl (by simpa using hx)),opsAV_congr fun x hx=>h1 x (by simp [Op.operands]; exact .inr (by simpa using hx))]
  | makeMap t r=>cases r <;> rfl
  | slice t x lo hi mx =>
    cases mx with
    | some m=>rfl
    | none =>
      simp only [evOp]
      rw [h1 x (by simp [Op.operands]),optInt_congr fun y hy=>h1 y (by subst hy; simp [Op.operands]),optInt_congr (x:=hi) fun y hy=>h1 y (by subst hy; simp [Op.operands])]
  | fieldAddr t x f=>simp only [evOp]; rw [h1 x (by simp [Op.operands])]
  | field t x f=>simp only [evOp]; rw [h1 x (by simp [Op.operands])]
  | indexAddr t x i=>simp only [evOp]; rw [h1 x (by simp [Op.operands]),h1 i (by simp [Op.operands])]
  | index t x i=>simp only [evOp]; rw [h1 x (by simp [Op.operands]),h1 i (by simp [Op.operands])]
  | lookup t x k ok =>
    simp only [evOp]; rw [h1 x (by simp [Op.operands]),h1 k (by simp [Op.operands])]
    cases hv:ρ x with
    | none=>rfl
    | some v =>
      cases hk:ρ k with
      | none=>rfl
      | some u=>simp only [evLookup,ent_congr (hl x (by simp [Op.operands]) v hv)]
  | mapUpdate t m k v =>
    simp only [evOp]; rw [h1 m (by simp [Op.operands]),h1 k (by simp [Op.operands]),h1 v (by simp [Op.operands])]
    cases hv:ρ m with
    | none=>rfl
    | some a =>
      cases a with
      | map l=>have:=hl m (by simp [Op.operands]) _ hv l (by simp [locOf]); (cases ρ k with | none=>rfl | some b=>cases ρ v with | none=>rfl | some c=>(simp only [evMapSet]; cases kOf P t with | none=>rfl | some kk=>cases kk <;> first | rfl | simp only [this]))
      | _=>cases ρ k <;> cases ρ v <;> simp [evMapSet]
  | insert t m k v =>
    simp only [evOp]; rw [h1 m (by simp [Op.operands]),h1 k (by simp [Op.operands]),h1 v (by simp [Op.operands])]
    cases hv:ρ m with
    | none=>rfl
    | some a =>
      cases a with
      | map l=>have:=hl m (by simp [Op.operands]) _ hv l (by simp [locOf]); (cases ρ k with | none=>rfl | some b=>cases ρ v with | none=>rfl | some c=>(simp only [evMapSet]; cases kOf P t with | none=>rfl | some kk=>cases kk <;> first | rfl | simp only [this]))
      | _=>cases ρ k <;> cases ρ v <;> simp [evMapSet]
  | extract x i=>simp only [evOp]; rw [h1 x (by simp [Op.operands])]
  | typeAssert x xt t ok=>simp only [evOp]; rw [h1 x (by simp [Op.operands])]
  | call c =>
    obtain ⟨cal,args,ats⟩:=c
    have ha:∀ x ∈ args.toList,ρ' x = ρ x:=fun x hx=>h1 x (by simp [Op.operands,Call.operands]; first | exact .inr (by simpa using hx) | simpa using hx)
    cases cal with
    | builtin b =>
      simp only [evOp]
      rw [opsAV_congr ha]
      cases hv:opsAV ρ args.toList with
      | none=>rfl
      | some vs =>
        simp only
        have hq:∀ v ∈ vs,∀ l ∈ locOf v,hm' l = hm l:=fun v hvm l hlm=>by
          obtain ⟨x,hx,hxv⟩:=opsAV_mem hv v hvm
          exact hl x (by simp [Op.operands,Call.operands]; simpa using hx) v hxv l hlm
        rw [evBuiltin_congr hq,evBuiltin2_congr hq]
    | value x =>
      cases x with
      | func f=>simp only [evOp]; rw [opsAV_congr ha]
      | _=>rfl
    | _=>rfl
  | _=>rfl
def readsM:Op→Bool
  | .load .. | .store .. | .lookup .. | .mapUpdate .. | .insert .. | .call _ | .convert ..=>true
  | _=>false
def writesM:Op→Bool
  | .move .. | .assign .. | .pick .. | .build .. | .load .. | .nilCheck .. | .binOp .. | .unOp .. | .convert .. | .makeInterface .. | .makeFunc .. | .slice .. | .fieldAddr .. | .field .. | .indexAddr .. | .index .. | .lookup .. | .extract .. | .typeAssert ..=>false
  | .call c=>match c.callee with | .builtin .len=>false | .builtin .min=>false | .builtin .max=>false | .builtin .unsafeSliceData=>false | _=>true
  | _=>true
def mtouch (ρ:Operand→Option AV) (o:Op):List Nat:=if readsM o then touch ρ o else []
theorem evOp_hm {P:Program} {o:Op} {ρ:Operand→Option AV} {hm hm':Nat→Option Blk} {id:Nat} (h:readsM o = false):evOp P o ρ hm' id = evOp P o ρ hm id:=by
  cases o with
  | makeMap t r=>cases r <;> rfl
  | slice t x lo hi mx=>cases mx <;> rfl
  | _=>first | rfl | (simp [readsM] at h; done)
theorem evOp_congr' {P:Program} {o:Op} {ρ ρ':Operand→Option AV} {hm hm':Nat→Option Blk} {id:Nat} (h1:∀ x ∈ o.operands.toList,ρ' x = ρ x) (h2:∀ l ∈ mtouch ρ o,hm' l = hm l):evOp P o ρ' hm' id = evOp P o ρ hm id:=by
  cases hr:readsM o with
  | true=>exact evOp_congr h1 (by simpa [mtouch,hr] using h2)
  | false=>rw [evOp_congr (hm:=hm') h1 (fun _ _=>rfl)]; exact evOp_hm hr
theorem pureO_set {v:Option AV} {out:Out} (h:pureO v = some out):out.set = []:=by
  cases v with
  | none=>simp [pureO] at h
  | some v=>simp [pureO] at h; subst h; rfl
theorem evOp_pure {P:Program} {o:Op} {ρ:Operand→Option AV} {hm:Nat→Option Blk} {id:Nat} {out:Out} (hw:writesM o = false) (h:evOp P o ρ hm id = some out):out.set = []:=by
  cases o with
  | call c =>
    obtain ⟨cal,args,ats⟩:=c
    simp only [writesM] at hw
    split at hw <;> first | (simp at hw; done) | skip
    all_goals
      simp only [evOp] at h
      split at h
      · split at h
        · rename_i h2
          simp at h; subst h
          unfold evBuiltin at h2
          repeat' split at h2
          all_goals first
            | (simp at h2; done)
            | exact pureO_set h2
            | (simp at h2; subst h2; rfl)
            | (simp_all; done)
        · unfold evBuiltin2 at h
          repeat' split at h
          all_goals first
            | (simp at h; done)
            | (simp at h; subst h; rfl)
            | (simp_all; done)
      · simp at h
  | slice t x lo hi mx =>
    cases mx with
    | some m=>simp [evOp] at h
    | none =>
      simp only [evOp] at h
      repeat' split at h
      all_goals first
        | (simp at h; done)
        | exact pureO_set h
  | _ =>
    first
    | (simp [writesM] at hw; done)
    | (simp only [evOp] at h
       repeat' split at h
       all_goals first
         | (simp at h; done)
         | exact pureO_set h
         | (simp at h; subst h; rfl)
         | (simp only [Option.map_eq_some_iff] at h; obtain ⟨_,_,rfl⟩:=h; rfl))
structure LS where
  ts:List (Nat × Option AV)
  hs:List (Nat × Option Blk)
  dst:Option Tmp
  v:AV
  set:List (Nat × Option Blk)
  id:Nat
  n:Nat
abbrev FS:=(Nat→Option AV) × (Nat→Option Blk)
def LS.agree (a:LS) (s:FS):Prop:=(∀ x ∈ a.ts,s.1 x.1 = x.2)∧(∀ x ∈ a.hs,s.2 x.1 = x.2)
def LS.app (a:LS) (s:FS):FS:=(putO s.1 a.dst a.v,applyS s.2 a.set)
def Runs:List (Nat × LS)→FS→FS→Prop
  | [],s,t=>s = t
  | (_,a) :: r,s,t=>a.agree s∧Runs r (a.app s) t
def LS.tmpInd (a b:LS):Bool :=
  (match a.dst with | some d=>b.ts.all (fun x=>x.1 != d) && b.dst != some d | none=>true) &&
  (match b.dst with | some d=>a.ts.all (fun x=>x.1 != d) | none=>true)
def LS.locInd (a b:LS):Prop :=
  (∀ x ∈ a.set,(∀ y ∈ b.hs,y.1 ≠ x.1)∧(∀ y ∈ b.set,y.1 ≠ x.1))∧(∀ x ∈ b.set,∀ y ∈ a.hs,y.1 ≠ x.1)
theorem putO_get {fr:Nat→Option AV} {d:Option Tmp} {v:AV} {t:Nat} (h:d ≠ some t):putO fr d v t = fr t:=by
  cases d with
  | none=>rfl
  | some d=>exact upd_ne _ _ fun e=>h (by rw [e])
theorem applyS_get:∀ {s:List (Nat × Option Blk)} {hm:Nat→Option Blk} {l:Nat},(∀ x ∈ s,x.1 ≠ l)→applyS hm s l = hm l
  | [],hm,l,_=>rfl
  | x :: s,hm,l,h=>by
    have:=applyS_get (s:=s) (hm:=upd hm x.1 x.2) (l:=l) (fun y hy=>h y (by simp [hy]))
    simp only [applyS,List.foldl_cons] at this ⊢
    rw [this,upd_ne _ _ fun e=>h x (by simp) e.symm]
theorem putO_comm {fr:Nat→Option AV} {d e:Option Tmp} {v u:AV} (h:∀ x,d = some x→e ≠ some x):putO (putO fr d v) e u = putO (putO fr e u) d v:=by
  cases d with
  | none=>rfl
  | some d =>
    cases e with
    | none=>rfl
    | some e =>
      have hne:e ≠ d:=fun hx=>h d rfl (by rw [hx])
      funext t
      simp only [putO,upd]
      by_cases h1:t = e
      · subst h1; rw [if_pos rfl,if_neg hne,if_pos rfl]
      · rw [if_neg h1]
        by_cases h2:t = d
        · rw [if_pos h2,if_pos h2]
        · rw [if_neg h2,if_neg h2,if_neg h1]
theorem upd_applyS:∀ {s:List (Nat × Option Blk)} {hm:Nat→Option Blk} {l:Nat} {B:Option Blk},(∀ x ∈ s,x.1 ≠ l)→applyS (upd hm l B) s = upd (applyS hm s) l B
  | [],hm,l,B,_=>rfl
  | x :: s,hm,l,B,h=>by
    have hne:=h x (by simp)
    have e:upd (upd hm l B) x.1 x.2 = upd (upd hm x.1 x.2) l B:=by
      funext t
      simp only [upd]
      by_cases h1:t = x.1
      · subst h1; rw [if_pos rfl,if_neg hne,if_pos rfl]
      · rw [if_neg h1]
        by_cases h2:t = l
        · rw [if_pos h2,if_pos h2]
        · rw [if_neg h2,if_neg h2,if_neg h1]
    have:=upd_applyS (s:=s) (hm:=upd hm x.1 x.2) (l:=l) (B:=B) (fun y hy=>h y (by simp [hy]))
    simp only [applyS,List.foldl_cons] at this ⊢
    rw [e,this]
theorem applyS_comm:∀ {s r:List (Nat × Option Blk)} {hm:Nat→Option Blk},(∀ x ∈ s,∀ y ∈ r,y.1 ≠ x.1)→applyS (applyS hm s) r = applyS (applyS hm r) s
  | [],r,hm,_=>rfl
  | x :: s,r,hm,h=>by
    have h1:=applyS_comm (s:=s) (r:=r) (hm:=upd hm x.1 x.2) (fun y hy=>h y (by simp [hy]))
    have h2:=upd_applyS (s:=r) (hm:=hm) (l:=x.1) (B:=x.2) (h x (by simp))
    have e1:∀ hm,applyS hm (x :: s) = applyS (upd hm x.1 x.2) s:=fun _=>rfl
    rw [e1,e1,h1,h2]
theorem app_comm {a b:LS} {s:FS} (h1:a.tmpInd b = true) (h2:a.locInd b):b.app (a.app s) = a.app (b.app s):=by
  simp only [LS.app]
  simp only [LS.tmpInd,Bool.and_eq_true] at h1
  refine Prod.ext (putO_comm fun x hx=>?_) (applyS_comm fun x hx y hy=>(h2.1 x hx).2 y hy)
  have:=h1.1
  rw [hx] at this
  simp at this
  exact this.2
theorem agree_of {a b:LS} {s:FS} (h1:a.tmpInd b = true) (h2:a.locInd b):(b.agree (a.app s) ↔ b.agree s)∧(a.agree (b.app s) ↔ a.agree s):=by
  simp only [LS.tmpInd,Bool.and_eq_true] at h1
  have t1:∀ x ∈ b.ts,(a.app s).1 x.1 = s.1 x.1:=fun x hx=>putO_get fun e=>by
    have:=h1.1; rw [e] at this; simp at this; exact this.1 x.1 x.2 hx rfl
  have t2:∀ x ∈ a.ts,(b.app s).1 x.1 = s.1 x.1:=fun x hx=>putO_get fun e=>by
    have:=h1.2; rw [e] at this; simp at this; exact this x.1 x.2 hx rfl
  have l1:∀ x ∈ b.hs,(a.app s).2 x.1 = s.2 x.1:=fun x hx=>applyS_get fun y hy e=>(h2.1 y hy).1 x hx e.symm
  have l2:∀ x ∈ a.hs,(b.app s).2 x.1 = s.2 x.1:=fun x hx=>applyS_get fun y hy e=>h2.2 y hy x hx e.symm
  constructor
  · constructor
    · rintro ⟨p,q⟩; exact ⟨fun x hx=>(t1 x hx).symm.trans (p x hx),fun x hx=>(l1 x hx).symm.trans (q x hx)⟩
    · rintro ⟨p,q⟩; exact ⟨fun x hx=>(t1 x hx).trans (p x hx),fun x hx=>(l1 x hx).trans (q x hx)⟩
  · constructor
    · rintro ⟨p,q⟩; exact ⟨fun x hx=>(t2 x hx).symm.trans (p x hx),fun x hx=>(l2 x hx).symm.trans (q x hx)⟩
    · rintro ⟨p,q⟩; exact ⟨fun x hx=>(t2 x hx).trans (p x hx),fun x hx=>(l2 x hx).trans (q x hx)⟩
theorem runs_pull {i:Nat} {b:LS} {t:FS} {β:List (Nat × LS)}:∀ {α:List (Nat × LS)} {s:FS},Runs (α ++ (i,b) :: β) s t→(∀ x ∈ α,x.2.tmpInd b = true∧x.2.locInd b)→b.agree s∧Runs (α ++ β) (b.app s) t
  | [],s,h,_=>h
  | (j,a) :: α,s,h,hi=>by
    obtain ⟨h1,h2⟩:=h
    obtain ⟨i1,i2⟩:=hi (j,a) (by simp)
    obtain ⟨h3,h4⟩:=runs_pull h2 (fun x hx=>hi x (by simp [hx]))
    obtain ⟨q1,q2⟩:=agree_of (s:=s) i1 i2
    refine ⟨q1.1 h3,q2.2 h1,?_⟩
    rw [← app_comm i1 i2]; exact h4
def edgesOf (o:Oper):List Nat:=(o.after.toList.filter fun e=>Region.binds .any e).map (·.on)
theorem edge_mem {o:Oper} {j:Nat} (h:j ∈ edgesOf o):∃ e ∈ o.after.toList,Region.binds .any e = true∧e.on = j:=by
  unfold edgesOf at h
  obtain ⟨e,he,rfl⟩:=List.mem_map.1 h
  obtain ⟨h1,h2⟩:=List.mem_filter.1 he
  exact ⟨e,h1,h2,rfl⟩
inductive Way (ops:List Oper):Nat→Nat→Prop where
  | edge {i j:Nat} {o:Oper} (ho:ops[i]? = some o) (hj:j ∈ edgesOf o):Way ops j i
  | step {a i j:Nat} {o:Oper} (ho:ops[i]? = some o) (hj:j ∈ edgesOf o) (h:Way ops a j):Way ops a i
def maskOf (acc:List Nat):List Nat→Nat
  | []=>0
  | j :: r=>((1 <<< j) ||| acc.getD j 0) ||| maskOf acc r
def ancsGo:List Nat→List Oper→List Nat
  | acc,[]=>acc
  | acc,o :: r=>ancsGo (acc ++ [maskOf acc (edgesOf o)]) r
def ancs (ops:List Oper):List Nat:=ancsGo [] ops
def leads (A:List Nat) (a i:Nat):Bool:=(A.getD i 0).testBit a
theorem maskOf_ok {acc:List Nat} {a:Nat}:∀ {l:List Nat},(maskOf acc l).testBit a = true→∃ j ∈ l,a = j∨(acc.getD j 0).testBit a = true
  | [],h=>by simp [maskOf] at h
  | j :: l,h=>by
    simp only [maskOf,Nat.testBit_or,Bool.or_eq_true] at h
    rcases h with (h | h) | h
    · have h':=h
      rw [Nat.shiftLeft_eq,Nat.one_mul,Nat.testBit_two_pow] at h'
      exact ⟨j,by simp,.inl (of_decide_eq_true h').symm⟩
    · exact ⟨j,by simp,.inr h⟩
    · obtain ⟨k,hk,hh⟩:=maskOf_ok h
      exact ⟨k,by simp [hk],hh⟩
theorem ancsGo_ok {ops:List Oper}:∀ {rest:List Oper} {acc:List Nat},(∀ j,rest[j]? = ops[acc.length + j]?)→(∀ i a,(acc.getD i 0).testBit a = true→Way ops a i)→∀ i a,((ancsGo acc rest).getD i 0).testBit a = true→Way ops a i
  | [],acc,hr,ha=>ha
  | o :: rest,acc,hr,ha=>by
    have ho:ops[acc.length]? = some o:=by have:=hr 0; simpa using this.symm
    refine ancsGo_ok (acc:=acc ++ [maskOf acc (edgesOf o)]) (fun j=>?_) (fun i a h=>?_)
    · have:=hr (j + 1)
      simp only [List.getElem?_cons_succ] at this
      rw [this,List.length_append,List.length_singleton]
      congr 1; omega
    · rw [List.getD_eq_getElem?_getD] at h
      by_cases hi:i < acc.length
      · rw [List.getElem?_append_left hi] at h
        exact ha i a (by rw [List.getD_eq_getElem?_getD]; exact h)
      · rw [List.getElem?_append_right (by omega)] at h
        cases hd:i - acc.length with
        | succ d=>rw [hd] at h; simp at h
        | zero =>
          rw [hd] at h
          have hi':i = acc.length:=by omega
          subst hi'
          simp only [List.getElem?_cons_zero,Option.getD_some] at h
          obtain ⟨j,hj,h1⟩:=maskOf_ok h
          rcases h1 with rfl | h1
          · exact .edge ho hj
          · exact .step ho hj (ha j a h1)
theorem leads_ok {ops:List Oper} {a i:Nat} (h:leads (ancs ops) a i = true):Way ops a i :=
  ancsGo_ok (acc:=[]) (fun j=>by simp) (fun i a h=>by simp at h) i a h
def indOne (ops:List Oper) (i:Nat) (a:LS):List (Nat × LS)→Prop
  | []=>True
  | (j,b) :: r=>(Way ops i j∨(a.tmpInd b = true∧a.locInd b))∧indOne ops i a r
def indAll (ops:List Oper):List (Nat × LS)→Prop
  | []=>True
  | (i,a) :: r=>indOne ops i a r∧indAll ops r
theorem indOne_mem {ops:List Oper} {i:Nat} {a:LS}:∀ {r:List (Nat × LS)},indOne ops i a r→∀ x ∈ r,Way ops i x.1∨(a.tmpInd x.2 = true∧a.locInd x.2)
  | [],_,x,hx=>by simp at hx
  | (j,b) :: r,h,x,hx=>by
    simp at hx
    rcases hx with rfl | hx
    · exact h.1
    · exact indOne_mem h.2 x hx
theorem indAll_app {ops:List Oper}:∀ {α β:List (Nat × LS)},indAll ops (α ++ β)→(∀ x ∈ α,∀ y ∈ β,Way ops x.1 y.1∨(x.2.tmpInd y.2 = true∧x.2.locInd y.2))
  | [],β,_,x,hx=>by simp at hx
  | (i,a) :: α,β,h,x,hx=>by
    simp at hx
    rcases hx with rfl | hx
    · exact fun y hy=>indOne_mem h.1 y (by simp [hy])
    · exact indAll_app h.2 x hx
theorem indOne_sub {ops:List Oper} {i:Nat} {a:LS}:∀ {r r':List (Nat × LS)},indOne ops i a r→(∀ x ∈ r',x ∈ r)→indOne ops i a r'
  | r,[],h,hs=>trivial
  | r,x :: r',h,hs=>⟨indOne_mem h x (hs x (by simp)),indOne_sub h fun y hy=>hs y (by simp [hy])⟩
theorem indAll_drop {ops:List Oper} {x:Nat × LS}:∀ {α β:List (Nat × LS)},indAll ops (α ++ x :: β)→indAll ops (α ++ β)
  | [],β,h=>h.2
  | a :: α,β,h=>⟨indOne_sub h.1 fun y hy=>by simp at hy ⊢; rcases hy with hy | hy <;> simp [hy],indAll_drop h.2⟩
end Go.SL
namespace Go.SL
open Go.RowKit
def Sound (P:Program) (E:Env) (N:Nat) (ops:Array Oper) (top:Nat) (ex:Prop) (i:Nat) (a:LS):Prop :=
 ∀ fr hm (F:Nat→Prop) b g ac w,a.agree (fr,hm)→(∀ k,k < a.n→F (a.id + k))→(∀ l,b≤l→F l)→top≤b→Sim P E N F fr hm g ac w →
  ∀ (K:Act→World→Prop) (Q:Exit→Act→World→Prop),(∀ b' g' a' w',b≤b'→(ex→b' = b)→Sim P E N (fun l=>F l∧¬ (a.id≤l∧l < a.id + a.n)∧¬ (b≤l∧l < b')) (a.app (fr,hm)).1 (a.app (fr,hm)).2 g' a' w'→K a' w')→wpOp P ops Q i K ac w
def back (ops:List Oper):Bool:=ops.zipIdx.all fun x=>x.1.after.toList.all fun e=>!Region.binds .any e || decide (e.on < x.2)
theorem back_ok {ops:List Oper} (h:back ops = true) {i:Nat} {o:Oper} (ho:ops[i]? = some o):∀ e ∈ o.after.toList,Region.binds .any e = true→e.on < i:=by
 intro e he hb
 unfold back at h
 rw [List.all_eq_true] at h
 have:=h (o,i) (by rw [List.mem_zipIdx_iff_getElem?]; exact ho)
 simp only [List.all_eq_true] at this
 have:=this e he
 rw [hb] at this
 simpa using this
theorem way_listed {ops:Array Oper} {listed:Array Bool} (hD:∀ (j:Nat) o,ops[j]? = some o→listed.getD j false = true→∀ e ∈ o.after.toList,Region.binds .any e = true→listed.getD e.on false = true)
  {a i:Nat} (h:Way ops.toList a i):∀ {o:Oper},ops[i]? = some o→(∀ e ∈ o.after.toList,Region.binds .any e = true→listed.getD e.on false = true)→listed.getD a false = true:=by
 induction h with
 | edge ho hj =>
  intro o' ho' he
  rw [Array.getElem?_toList,ho'] at ho
  simp at ho; subst ho
  obtain ⟨e,h1,h2,rfl⟩:=edge_mem hj
  exact he e h1 h2
 | step ho hj hw ih =>
  intro o' ho' he
  rw [Array.getElem?_toList,ho'] at ho
  simp at ho; subst ho
  obtain ⟨e,h1,h2,rfl⟩:=edge_mem hj
  have hl:=he e h1 h2
  cases hoe:ops[e.on]? with
  | none =>
   exfalso
   cases hw with
   | edge ho2 _=>rw [Array.getElem?_toList,hoe] at ho2; simp at ho2
   | step ho2 _ _=>rw [Array.getElem?_toList,hoe] at ho2; simp at ho2
  | some o2=>exact ih hoe (hD e.on o2 hoe hl)
def idsOf (R:List (Nat × LS)) (l:Nat):Prop:=∃ x ∈ R,x.2.id≤l∧l < x.2.id + x.2.n
def idsApart:List (Nat × LS)→Prop
 | []=>True
 | x :: r=>(∀ y ∈ r,x.2.id + x.2.n≤y.2.id)∧idsApart r
theorem idsApart_drop {x:Nat × LS}:∀ {α β:List (Nat × LS)},idsApart (α ++ x :: β)→idsApart (α ++ β)∧∀ y ∈ α ++ β,x.2.id + x.2.n≤y.2.id∨y.2.id + y.2.n≤x.2.id
 | [],β,h=>⟨h.2,fun y hy=>.inl (h.1 y hy)⟩
 | a :: α,β,h=>by
  obtain ⟨h1,h2⟩:=idsApart_drop h.2
  refine ⟨⟨fun y hy=>h.1 y (by simp at hy ⊢; rcases hy with hy | hy <;> simp [hy]),h1⟩,fun y hy=>?_⟩
  simp at hy
  rcases hy with rfl | hy
  ·exact .inr (h.1 x (by simp))
  ·exact h2 y (by simpa using hy)
section
variable {P:Program} {E:Env} {N:Nat} {ops:Array Oper} {Q:Exit→Act→World→Prop} {top:Nat} {ex:Prop} {t:FS}
theorem ready_iff {listed:Array Bool} {i:Nat} (hsz:listed.size = ops.size):i ∈ Region.ready .any ops listed ↔ i < ops.size∧listed.getD i false = false∧∃ o,ops[i]? = some o∧∀ e ∈ o.after.toList,Region.binds .any e = true→listed.getD e.on false = true:=by
 unfold Region.ready
 simp only [List.mem_filter,List.mem_range,Bool.and_eq_true,Bool.not_eq_true']
 constructor
 ·rintro ⟨h1,h2,h3⟩
  have ho:ops[i]? = some ops[i]:=Array.getElem?_eq_getElem h1
  refine ⟨h1,?_,ops[i],ho,fun e he hb=>?_⟩
  ·have:i < listed.size:=by omega
   simpa [Array.getD_eq_getD_getElem?,Array.getElem?_eq_getElem this] using h2
  ·rw [ho] at h3
   simp only [Option.map_some,Option.getD_some,Array.all_eq_true'] at h3
   have:=h3 e (by simpa using he)
   rw [hb] at this
   simpa using this
 ·rintro ⟨h1,h2,o,ho,h3⟩
  refine ⟨h1,?_,?_⟩
  ·have:i < listed.size:=by omega
   simpa [Array.getD_eq_getD_getElem?,Array.getElem?_eq_getElem this] using h2
  ·rw [ho]
   simp only [Option.map_some,Option.getD_some,Array.all_eq_true']
   intro e he
   cases hb:Region.binds .any e with
   | false=>rfl
   | true=>simpa using h3 e (by simpa using he) hb
def Closed (ops:Array Oper) (listed:Array Bool):Prop:=∀ (j:Nat) o,ops[j]? = some o→listed.getD j false = true→∀ e ∈ o.after.toList,Region.binds .any e = true→listed.getD e.on false = true
theorem listed_set {listed:Array Bool} {i:Nat} (hi:i < listed.size):∀ j,(listed.setIfInBounds i true).getD j false = if j = i then true else listed.getD j false:=by
 intro j
 simp only [Array.getD_eq_getD_getElem?,Array.getElem?_setIfInBounds]
 by_cases hj:i = j
 ·subst hj; rw [if_pos rfl,if_pos hi,if_pos rfl]; rfl
 ·rw [if_neg hj,if_neg (fun e=>hj e.symm)]
theorem closed_set {listed:Array Bool} {i:Nat} (hsz:listed.size = ops.size) {o:Oper} (ho:ops[i]? = some o) (h3:∀ e ∈ o.after.toList,Region.binds .any e = true→listed.getD e.on false = true) (hD:Closed ops listed):Closed ops (listed.setIfInBounds i true):=by
 have hi:i < listed.size:=by have:=(Array.getElem?_eq_some_iff.1 ho).1; omega
 have hget:=listed_set hi
 intro j oj hoj hlj e he hbd
 rw [hget] at hlj ⊢
 by_cases hei:e.on = i
 ·rw [if_pos hei]
 ·rw [if_neg hei]
  by_cases hji:j = i
  ·subst hji
   rw [ho] at hoj; simp at hoj; subst hoj
   exact h3 e he hbd
  ·rw [if_neg hji] at hlj
   exact hD j oj hoj hlj e he hbd
theorem any_runs (hback:back ops.toList = true) (hE:E.n0≤top) (m:Nat) (hway:∀ i j,m≤i→i < ops.size→j < i→Way ops.toList j i) (k:Nat):∀ (n:Nat) (R:List (Nat × LS)) (listed:Array Bool) (s:FS) (b:Nat) (g:G) (ac:Act) (w:World),
  listed.size = ops.size→R.length = n→(∀ i,i < ops.size→(listed.getD i false = false ↔ (∃ a,(i,a) ∈ R)∨m≤i))→(∀ x ∈ R,x.1 < ops.size∧x.1 < m)→(R.map (·.1)).Pairwise (· < ·) →
  Closed ops listed →
  Runs R s t→indAll ops.toList R→(∀ x ∈ R,Sound P E N ops top ex x.1 x.2)→idsApart R→(∀ x ∈ R,E.n0≤x.2.id∧x.2.id + x.2.n≤top)→top≤b→(ex→b = top) →
  Sim P E N (fun l=>E.F l∨idsOf R l∨b≤l) s.1 s.2 g ac w →
  (∀ listed' b' g' a' w',listed'.size = ops.size→(∀ i,i < ops.size→(listed'.getD i false = false ↔ m≤i))→Closed ops listed'→top≤b'→(ex→b' = top)→Sim P E N (fun l=>E.F l∨b'≤l) t.1 t.2 g' a' w'→wpAny P .any ops Q k listed' a' w')→wpAny P .any ops Q (n + k) listed ac w:=by
 intro n
 induction n with
 | zero =>
  intro R listed s b g ac w hsz hlen hl hlt hpw hD hrun hind hsound hids hidr hb hbx hs hQ
  have hR:R = []:=List.eq_nil_of_length_eq_zero hlen
  subst hR
  have:s = t:=hrun
  subst this
  rw [Nat.zero_add]
  exact hQ listed b g ac w hsz (fun i hi=>(hl i hi).trans (by simp)) hD hb hbx ⟨hs.size,hs.defers,hs.fr,hs.mem.fsub fun l hl=>hl.elim .inl fun h=>.inr (.inr h)⟩
 | succ n ih =>
  intro R listed s b g ac w hsz hlen hl hlt hpw hD hrun hind hsound hids hidr hb hbx hs hQ
  rw [show n + 1 + k = (n + k) + 1 by omega]
  refine ⟨fun hr=>?_,fun i hi=>?_⟩
  ·cases R with
   | nil=>simp at hlen
   | cons x R =>
    exfalso
    obtain ⟨i,a⟩:=x
    have hi:i < ops.size:=(hlt (i,a) (by simp)).1
    have ho:ops[i]? = some ops[i]:=Array.getElem?_eq_getElem hi
    have:i ∈ Region.ready .any ops listed:=by
     refine (ready_iff hsz).2 ⟨hi,(hl i hi).2 (.inl ⟨a,by simp⟩),_,ho,fun e he hbd=>?_⟩
     have hlt':=back_ok hback (i:=i) (o:=ops[i]) (by rw [Array.getElem?_toList]; exact ho) e he hbd
     cases hx:listed.getD e.on false with
     | true=>rfl
     | false =>
      exfalso
      rcases (hl e.on (by omega)).1 hx with ⟨a',ha'⟩ | hm
      ·simp at ha'
       rcases ha' with ⟨h1,_⟩ | ha'
       ·omega
       ·simp only [List.map_cons,List.pairwise_cons] at hpw
        have:=hpw.1 e.on (List.mem_map.2 ⟨_,ha',rfl⟩)
        omega
      ·have:=(hlt (i,a) (by simp)).2
       dsimp only at this; omega
    rw [hr] at this; simp at this
  ·obtain ⟨h1,h2,o,ho,h3⟩:=(ready_iff hsz).1 hi
   have hin:∃ a,(i,a) ∈ R:=by
    rcases (hl i h1).1 h2 with h | h
    ·exact h
    ·exfalso
     cases R with
     | nil=>simp at hlen
     | cons x R =>
      have hx:=hlt x (by simp)
      have:=way_listed hD (hway i x.1 h h1 (by omega)) ho h3
      have hx2:=(hl x.1 hx.1).2 (.inl ⟨x.2,by simp⟩)
      rw [this] at hx2; simp at hx2
   obtain ⟨a,ha⟩:=hin
   obtain ⟨α,β,rfl⟩:=List.append_of_mem ha
   have hpull:∀ x ∈ α,x.2.tmpInd a = true∧x.2.locInd a:=by
    intro x hx
    rcases indAll_app hind x hx (i,a) (by simp) with hr | hr
    ·exfalso
     have:=way_listed hD hr ho h3
     have hx2:=(hl x.1 (hlt x (by simp [hx])).1).2 (.inl ⟨x.2,by simp [hx]⟩)
     rw [this] at hx2; simp at hx2
    ·exact hr
   obtain ⟨hag,hrun'⟩:=runs_pull hrun hpull
   obtain ⟨hap1,hap2⟩:=idsApart_drop hids
   have hidr':=hidr (i,a) (by simp)
   refine hsound (i,a) (by simp) s.1 s.2 _ b g ac w hag (fun k hk=>.inr (.inl ⟨(i,a),by simp,by simp; omega⟩)) (fun l hl=>.inr (.inr hl)) hb hs _ Q fun b' g' a' w' hbb hbe hs'=>?_
   have hsz':(listed.setIfInBounds i true).size = ops.size:=by simpa using hsz
   have hget:=listed_set (listed:=listed) (i:=i) (by omega)
   refine ih (α ++ β) _ (a.app s) b' g' a' w' hsz' (by simp at hlen ⊢; omega) ?_ (fun x hx=>hlt x (by simp at hx ⊢; rcases hx with hx | hx <;> simp [hx])) ?_ (closed_set hsz ho h3 hD) hrun' (indAll_drop hind) (fun x hx=>hsound x (by simp at hx ⊢; rcases hx with hx | hx <;> simp [hx])) hap1 (fun x hx=>hidr x (by simp at hx ⊢; rcases hx with hx | hx <;> simp [hx])) (Nat.le_trans hb hbb) (fun h=>(hbe h).trans (hbx h)) ?_ hQ
   ·intro j hj
    rw [hget]
    have hnd:∀ c,(i,c) ∈ α ++ β→False:=by
     intro c hc
     rw [List.map_append,List.map_cons,List.pairwise_append] at hpw
     obtain ⟨_,p2,p3⟩:=hpw
     simp at hc
     rcases hc with hc | hc
     ·have:=p3 i (List.mem_map.2 ⟨_,hc,rfl⟩) i (by simp); omega
     ·have:=(List.pairwise_cons.1 p2).1 i (List.mem_map.2 ⟨_,hc,rfl⟩); omega
    by_cases hji:j = i
    ·subst hji
     rw [if_pos rfl]
     constructor
     ·intro h; simp at h
     ·rintro (⟨c,hc⟩ | hm)
      ·exact (hnd c hc).elim
      ·have:=(hlt (j,a) (by simp)).2
       dsimp only at this; omega
    ·rw [if_neg hji,hl j hj]
     refine or_congr ?_ Iff.rfl
     constructor
     ·rintro ⟨c,hc⟩
      refine ⟨c,?_⟩
      simp at hc ⊢
      rcases hc with hc | ⟨hc,_⟩ | hc
      ·exact .inl hc
      ·exact absurd hc hji
      ·exact .inr hc
     ·rintro ⟨c,hc⟩
      refine ⟨c,?_⟩
      simp at hc ⊢
      rcases hc with hc | hc
      ·exact .inl hc
      ·exact .inr (.inr hc)
   ·have:((α ++ β).map (·.1)).Sublist ((α ++ (i,a) :: β).map (·.1)):=by
     apply List.Sublist.map
     exact List.Sublist.append (List.Sublist.refl α) (List.sublist_cons_self _ _)
    exact List.Pairwise.sublist this hpw
   ·refine ⟨hs'.size,hs'.defers,hs'.fr,hs'.mem.fsub fun l hl=>?_⟩
    rcases hl with hl | ⟨x,hx,hl⟩ | hl
    ·have:=E.hF l hl
     exact ⟨.inl hl,(show ¬ (a.id≤l∧l < a.id + a.n) by have:E.n0≤a.id:=hidr'.1; omega),by omega⟩
    ·have hx':x ∈ α ++ (i,a) :: β:=by simp at hx ⊢; rcases hx with hx | hx <;> simp [hx]
     have h4:a.id + a.n≤x.2.id∨x.2.id + x.2.n≤a.id:=hap2 x hx
     have h5:=hidr x hx'
     exact ⟨.inr (.inl ⟨x,hx',hl⟩),(show ¬ (a.id≤l∧l < a.id + a.n) by omega),by omega⟩
    ·exact ⟨.inr (.inr (by omega)),(show ¬ (a.id≤l∧l < a.id + a.n) by have:a.id + a.n≤top:=hidr'.2; omega),by omega⟩
theorem any_tail (hback:back ops.toList = true):∀ (k m:Nat) (listed:Array Bool) (ac:Act) (w:World),m + k = ops.size→(∀ i j,m≤i→i < ops.size→j < i→Way ops.toList j i)→listed.size = ops.size→(∀ i,i < ops.size→(listed.getD i false = false ↔ m≤i))→Closed ops listed →
  wpList P ops Q (ops.toList.drop m) ac w→wpAny P .any ops Q k listed ac w:=by
 intro k
 induction k with
 | zero =>
  intro m listed ac w hk hway hsz hl hD h
  have hd:ops.toList.drop m = []:=List.drop_eq_nil_of_le (by simp; omega)
  rw [hd] at h
  refine ⟨?_,h⟩
  apply List.eq_nil_iff_forall_not_mem.2
  intro i hi
  obtain ⟨h1,h2,_⟩:=(ready_iff hsz).1 hi
  have:=(hl i h1).1 h2
  omega
 | succ k ih =>
  intro m listed ac w hk hway hsz hl hD h
  have hm:m < ops.size:=by omega
  have ho:ops[m]? = some ops[m]:=Array.getElem?_eq_getElem hm
  have hd:ops.toList.drop m = ops[m] :: ops.toList.drop (m + 1):=by
   rw [List.drop_eq_getElem_cons (by simpa using hm)]; simp
  have hready:m ∈ Region.ready .any ops listed:=by
   refine (ready_iff hsz).2 ⟨hm,(hl m hm).2 (Nat.le_refl _),_,ho,fun e he hbd=>?_⟩
   have hlt':=back_ok hback (i:=m) (o:=ops[m]) (by rw [Array.getElem?_toList]; exact ho) e he hbd
   cases hx:listed.getD e.on false with
   | true=>rfl
   | false=>have:=(hl e.on (by omega)).1 hx; omega
  refine ⟨fun hr=>by rw [hr] at hready; simp at hready,fun i hi=>?_⟩
  obtain ⟨h1,h2,o,hoi,h3⟩:=(ready_iff hsz).1 hi
  have hmi:=(hl i h1).1 h2
  have him:i = m:=by
   rcases Nat.lt_or_ge m i with hlt | hge
   ·exfalso
    have:=way_listed hD (hway i m hmi h1 hlt) hoi h3
    have h4:=(hl m hm).2 (Nat.le_refl _)
    rw [this] at h4; simp at h4
   ·omega
  subst him
  have hrec:∀ a' w',wpList P ops Q (ops.toList.drop (i + 1)) a' w'→wpAny P .any ops Q k (listed.setIfInBounds i true) a' w':=fun a' w' h' =>
   ih (i + 1) _ a' w' (by omega) (fun p q hp hq hpq=>hway p q (by omega) hq hpq) (by simpa using hsz) (fun j hj=>by
    rw [listed_set (by omega) j]
    by_cases hji:j = i
    ·subst hji; simp
    ·rw [if_neg hji,hl j hj]; omega) (closed_set hsz hoi h3 hD) h'
  rw [hd] at h
  simp only [wpList] at h
  simp only [wpOp,ho]
  split
  ·rename_i hw
   rw [if_pos hw] at h
   exact h.imp (Oper.wp_mono hrec) id
  ·rename_i hw
   rw [if_neg hw] at h
   exact hrec _ _ h
theorem aw_draw {id m:Nat} {s:St} {K:Ex→St→Prop} (hmix:P.follows .mixedOrders = true) (R:List (Nat × LS)) (hback:back ops.toList = true) (hm:m≤ops.size) (hway:∀ i j,m≤i→i < ops.size→j < i→Way ops.toList j i) (hR:R.map (·.1) = List.range m)
  (hrun:Runs R (s.fr,s.hm) t) (hind:indAll ops.toList R) (hsound:∀ x ∈ R,∀ E,Sound P E N ops top ex x.1 x.2) (hids:idsApart R) (hidr:∀ x ∈ R,s.nx≤x.2.id∧x.2.id + x.2.n≤top) (htop:s.nx≤top)
  (hK:∀ b,top≤b→(ex→b = top)→RW P E N ops (ops.toList.drop m) ⟨t.1,t.2,b⟩ K):AW P E N (.region id ops true) s K:=fun g a w hs=>by
 refine wp_region_any hmix ?_
 have hlen:R.length = m:=by have:=congrArg List.length hR; simpa using this
 have hmem:∀ i,i < m ↔ ∃ c,(i,c) ∈ R:=fun i=>by
  have:i ∈ R.map (·.1) ↔ i < m:=by rw [hR]; simp
  rw [← this,List.mem_map]
  constructor
  ·rintro ⟨x,hx,rfl⟩; exact ⟨x.2,hx⟩
  ·rintro ⟨c,hc⟩; exact ⟨_,hc,rfl⟩
 have hn0:=hs.nx
 have hfuel:ops.size = m + (ops.size - m):=by omega
 rw [hfuel]
 refine any_runs (top:=top) hback (by omega) m hway (ops.size - m) m R _ (s.fr,s.hm) top g a _ (by simp; omega) hlen ?_ ?_ ?_ ?_ hrun hind (fun x hx=>hsound x hx E) hids (fun x hx=>⟨by have:=(hidr x hx).1; omega,(hidr x hx).2⟩) (Nat.le_refl _) (fun _=>rfl) ?_ ?_
 ·intro i hi
  constructor
  ·intro _
   by_cases h:i < m
   ·exact .inl ((hmem i).1 h)
   ·exact .inr (by omega)
  ·intro _
   rw [← hfuel]
   simp [Array.getD_eq_getD_getElem?,hi]
 ·intro x hx
  have:=(hmem x.1).2 ⟨x.2,hx⟩
  omega
 ·rw [hR]; exact List.pairwise_lt_range
 ·intro j o ho hl
  rw [← hfuel] at hl
  have hj:j < ops.size:=(Array.getElem?_eq_some_iff.1 ho).1
  simp [Array.getD_eq_getD_getElem?,hj] at hl
 ·refine ⟨hs.sim.size,hs.sim.defers,hs.sim.fr,(hs.sim.mem.same (w':={ w with drawn:=w.drawn + 1 }) rfl rfl rfl rfl).fsub fun l hl=>?_⟩
  rcases hl with hl | ⟨x,hx,hl⟩ | hl
  ·exact .inr hl
  ·have:=(hidr x hx).1; exact .inl (by omega)
  ·exact .inl (by omega)
 ·intro listed' b' g' a' w' hsz hl hD hb hbe hs'
  refine any_tail hback (ops.size - m) m listed' a' w' (by omega) hway hsz hl hD ?_
  exact hK b' hb hbe g' a' w' ⟨⟨hs'.size,hs'.defers,hs'.fr,hs'.mem.fsub fun l hl=>hl.elim .inr .inl⟩,by dsimp only; omega⟩
end
end Go.SL
namespace Go.SL
open Go.RowKit
def tmpOf:Operand→List Nat | .tmp t=>[t] | _=>[]
def readsO (ops:Array Oper) (o:Oper):List Nat :=
 o.op.operands.toList.flatMap tmpOf ++ (match o.guard with | some (j,_)=>(match (ops[j]?).bind (·.dst) with | some d=>[d] | none=>[]) | none=>[])
def tmpIndO (ops:Array Oper) (a b:Oper):Bool :=
 (match a.dst with | some d=>(readsO ops b).all (fun x=>x != d) && b.dst != some d | none=>true) &&
 (match b.dst with | some d=>(readsO ops a).all (fun x=>x != d) | none=>true)
def statOne (ops:Array Oper) (i:Nat) (a:Oper):Nat→List Oper→Bool
 | _,[]=>true
 | j,b :: r=>(leads (ancs ops.toList) i j || tmpIndO ops a b) && statOne ops i a (j + 1) r
def statAll (ops:Array Oper):Nat→List Oper→Bool
 | _,[]=>true
 | i,a :: r=>statOne ops i a (i + 1) r && statAll ops (i + 1) r
abbrev Foot:=List Nat × List Nat
def apart (a b:Foot):Prop:=(∀ x ∈ a.2,(∀ y ∈ b.1,y ≠ x)∧(∀ y ∈ b.2,y ≠ x))∧(∀ x ∈ b.2,∀ y ∈ a.1,y ≠ x)
def mayMeet (a b:Oper):Bool:=(writesM a.op && (writesM b.op || readsM b.op)) || (writesM b.op && readsM a.op)
def meetOne (A:List Nat) (i:Nat) (a:Oper):Nat→List Oper→List (Nat × Nat)
 | _,[]=>[]
 | j,b :: r=>if !leads A i j && mayMeet a b then (i,j) :: meetOne A i a (j + 1) r else meetOne A i a (j + 1) r
def meets (A:List Nat):Nat→List Oper→List (Nat × Nat)
 | _,[]=>[]
 | i,a :: r=>meetOne A i a (i + 1) r ++ meets A (i + 1) r
def locL (fs:List Foot):List (Nat × Nat)→Prop
 | []=>True
 | p :: r=>(match fs[p.1]?,fs[p.2]? with | some a,some b=>apart a b | _,_=>False)∧locL fs r
theorem locL_mem {fs:List Foot}:∀ {l:List (Nat × Nat)},locL fs l→∀ p ∈ l,∃ a b,fs[p.1]? = some a∧fs[p.2]? = some b∧apart a b
 | [],_,p,hp=>by simp at hp
 | q :: l,h,p,hp=>by
  simp at hp
  rcases hp with rfl | hp
  ·have:=h.1
   split at this
   ·rename_i a b h1 h2; exact ⟨a,b,h1,h2,this⟩
   ·exact this.elim
  ·exact locL_mem h.2 p hp
theorem meets_mem {A:List Nat}:∀ {l:List Oper} {k:Nat} (p q:Nat) a b,p < q→l[p]? = some a→l[q]? = some b→leads A (k + p) (k + q) = true∨mayMeet a b = false∨(k + p,k + q) ∈ meets A k l
 | [],k,p,q,a,b,hpq,ha,hb=>by simp at ha
 | c :: l,k,p,q,a,b,hpq,ha,hb=>by
  have one:∀ {l:List Oper} {m:Nat} (q:Nat) b,l[q]? = some b→leads A k (m + q) = true∨mayMeet c b = false∨(k,m + q) ∈ meetOne A k c m l:=by
   intro l
   induction l with
   | nil=>intro m q b hb; simp at hb
   | cons d l ih =>
    intro m q b hb
    cases q with
    | zero =>
     simp at hb; subst hb
     simp only [meetOne]
     cases h1:leads A k m with
     | true=>left; first | (simp; done) | exact h1
     | false =>
      cases h2:mayMeet c d with
      | false=>right; left; rfl
      | true=>right; right; simp
    | succ q =>
     have:=ih (m:=m + 1) q b (by simpa using hb)
     rw [show m + 1 + q = m + (q + 1) by omega] at this
     rcases this with h | h | h
     ·exact .inl h
     ·exact .inr (.inl h)
     ·right; right
      simp only [meetOne]
      split
      ·simp [h]
      ·exact h
  simp only [meets,List.mem_append]
  cases p with
  | zero =>
   simp at ha; subst ha
   cases q with
   | zero=>omega
   | succ q =>
    have:=one (l:=l) (m:=k + 1) q b (by simpa using hb)
    rw [show k + 1 + q = k + (q + 1) by omega] at this
    rcases this with h | h | h
    ·exact .inl h
    ·exact .inr (.inl h)
    ·exact .inr (.inr (.inl h))
  | succ p =>
   cases q with
   | zero=>omega
   | succ q =>
    have:=meets_mem (A:=A) (l:=l) (k:=k + 1) p q a b (by omega) (by simpa using ha) (by simpa using hb)
    rw [show k + 1 + p = k + (p + 1) by omega,show k + 1 + q = k + (q + 1) by omega] at this
    rcases this with h | h | h
    ·exact .inl h
    ·exact .inr (.inl h)
    ·exact .inr (.inr (.inr h))
structure CR where
 f:FuncId
 args:List AV
 hs:List (Nat × Option Blk)
 v:AV
 set:List (Nat × Option Blk)
def nbT:AV→List (Nat × Option Blk)→List (Nat × Option Blk)→Option Blk
 | .map 0,[],[(0,some B)]=>some B
 | _,_,_=>none
def vT (v:AV) (hs set:List (Nat × Option Blk)) (id:Nat):AV:=match nbT v hs set with | some _=>.map id | none=>v
def setT (v:AV) (hs set:List (Nat × Option Blk)) (id:Nat):List (Nat × Option Blk):=match nbT v hs set with | some B=>[(id,some B)] | none=>set
def nT (v:AV) (hs set:List (Nat × Option Blk)):Nat:=match nbT v hs set with | some _=>1 | none=>0
def CROK (P:Program) (c:CR):Prop:=match nbT c.v c.hs c.set with
 | some B=>ltNB 0 B = true∧c.hs = []∧∀ hm nx,Triple P c.f c.args hm nx fun r hm' _=>r = .ret (.map nx)∧hm' = upd hm nx (some B)
 | none=>ltN 0 c.v = true∧(∀ x ∈ c.set,∃ B,x.2 = some B∧ltNB 0 B = true∧∃ C,(x.1,some C) ∈ c.hs) ∧
 ∀ hm nx,(∀ x ∈ c.hs,hm x.1 = x.2)→Triple P c.f c.args hm nx fun r hm' _=>r = .ret c.v∧hm' = applyS hm c.set
theorem nbT_nil (v:AV) (hs:List (Nat × Option Blk)):nbT v hs [] = none:=by
 unfold nbT; split <;> simp_all
theorem nbT_cons (v:AV) (x:Nat × Option Blk) (hs set:List (Nat × Option Blk)):nbT v (x :: hs) set = none:=by
 unfold nbT; split <;> simp_all
theorem CROK.of {P:Program} {c:CR} (hn:nbT c.v c.hs c.set = none) (h:ltN 0 c.v = true∧(∀ x ∈ c.set,∃ B,x.2 = some B∧ltNB 0 B = true∧∃ C,(x.1,some C) ∈ c.hs) ∧
  ∀ hm nx,(∀ x ∈ c.hs,hm x.1 = x.2)→Triple P c.f c.args hm nx fun r hm' _=>r = .ret c.v∧hm' = applyS hm c.set):CROK P c:=by
 unfold CROK; rw [hn]; exact h
open Classical in
noncomputable def runD (P:Program) (N:Nat) (ops:Array Oper):List Oper→List CR→St→Option (List Foot × St)
 | [],_,s=>some ([],s)
 | o :: l,cs,s =>
  match guardAV ops s.fr o,dstOK N o.dst with
  | some true,true=>match evOp P o.op (opd s.fr) s.hm s.nx with
   | some out=>match runD P N ops l cs ⟨putO s.fr o.dst out.v,applyS s.hm out.set,s.nx + out.n⟩ with
    | some (fs,s')=>some ((mtouch (opd s.fr) o.op,out.set.map (·.1)) :: fs,s')
    | none=>none
   | none=>match o.op,cs with
    | .call c,r :: cs=>if callee (opd s.fr) c = some (r.f,r.args)∧∀ x ∈ r.hs,s.hm x.1 = x.2 then
      (match runD P N ops l cs ⟨putO s.fr o.dst (vT r.v r.hs r.set s.nx),applyS s.hm (setT r.v r.hs r.set s.nx),s.nx + nT r.v r.hs r.set⟩ with
      | some (fs,s')=>some ((r.hs.map (·.1),(setT r.v r.hs r.set s.nx).map (·.1)) :: fs,s')
      | none=>none)
     else none
    | _,_=>none
  | some false,true=>match runD P N ops l cs ⟨putO s.fr o.dst (.tuple []),s.hm,s.nx⟩ with
   | some (fs,s')=>some (([],[]) :: fs,s')
   | none=>none
  | _,_=>none
open Classical in
noncomputable def runA (P:Program) (N:Nat) (ops:Array Oper):List Oper→List CR→St→List Foot→Option (List Foot × St)
 | [],_,s,acc=>some (acc.reverse,s)
 | o :: l,cs,s,acc =>
  match guardAV ops s.fr o,dstOK N o.dst with
  | some true,true=>match evOp P o.op (opd s.fr) s.hm s.nx with
   | some out=>runA P N ops l cs ⟨putO s.fr o.dst out.v,applyS s.hm out.set,s.nx + out.n⟩ ((mtouch (opd s.fr) o.op,out.set.map (·.1)) :: acc)
   | none=>match o.op,cs with
    | .call c,r :: cs=>if callee (opd s.fr) c = some (r.f,r.args)∧∀ x ∈ r.hs,s.hm x.1 = x.2 then runA P N ops l cs ⟨putO s.fr o.dst (vT r.v r.hs r.set s.nx),applyS s.hm (setT r.v r.hs r.set s.nx),s.nx + nT r.v r.hs r.set⟩ ((r.hs.map (·.1),(setT r.v r.hs r.set s.nx).map (·.1)) :: acc) else none
    | _,_=>none
  | some false,true=>runA P N ops l cs ⟨putO s.fr o.dst (.tuple []),s.hm,s.nx⟩ (([],[]) :: acc)
  | _,_=>none
theorem runA_ok {P:Program} {N:Nat} {ops:Array Oper}:∀ {l:List Oper} {cs:List CR} {s:St} {acc fs:List Foot} {s':St},runA P N ops l cs s acc = some (fs,s')→∃ fs',fs = acc.reverse ++ fs'∧runD P N ops l cs s = some (fs',s')
 | [],cs,s,acc,fs,s',h=>by
  simp [runA] at h
  obtain ⟨rfl,rfl⟩:=h
  exact ⟨[],by simp,rfl⟩
 | o :: l,cs,s,acc,fs,s',h=>by
  simp only [runA] at h
  simp only [runD]
  split at h
  ·split at h
   ·obtain ⟨fs',h1,h2⟩:=runA_ok h
    rw [h2]
    exact ⟨_,by rw [h1]; simp,rfl⟩
   ·split at h
    ·split at h
     ·rename_i hc
      obtain ⟨fs',h1,h2⟩:=runA_ok h
      rw [if_pos hc,h2]
      exact ⟨_,by rw [h1]; simp,rfl⟩
     ·simp at h
    ·simp at h
  ·obtain ⟨fs',h1,h2⟩:=runA_ok h
   rw [h2]
   exact ⟨_,by rw [h1]; simp,rfl⟩
  ·simp at h
section
variable {P:Program} {E:Env} {N:Nat} {ops:Array Oper} {top:Nat}
theorem opd_congr {fr fr':Nat→Option AV} {x:Operand} (h:∀ t ∈ tmpOf x,fr' t = fr t):opd fr' x = opd fr x:=by
 cases x with
 | tmp t=>exact h t (by simp [tmpOf])
 | _=>rfl
theorem reads_op {fr fr':Nat→Option AV} {o:Oper} (h:∀ t ∈ readsO ops o,fr' t = fr t):∀ x ∈ o.op.operands.toList,opd fr' x = opd fr x:=fun x hx =>
 opd_congr fun t ht=>h t (List.mem_append.2 (.inl (List.mem_flatMap.2 ⟨x,hx,ht⟩)))
theorem reads_guard {fr fr':Nat→Option AV} {o:Oper} (h:∀ t ∈ readsO ops o,fr' t = fr t):guardAV ops fr' o = guardAV ops fr o:=by
 unfold guardAV
 cases hg:o.guard with
 | none=>rfl
 | some x =>
  obtain ⟨j,want⟩:=x
  simp only
  cases hd:(ops[j]?).bind (·.dst) with
  | none=>rfl
  | some d =>
   simp only
   rw [h d (by simp [readsO,hg,hd])]
theorem sound_op {i:Nat} {o:Oper} {fr0:Nat→Option AV} {hm0:Nat→Option Blk} {id:Nat} {out:Out} (ho:ops[i]? = some o) (hg:guardAV ops fr0 o = some true) (hd:dstOK N o.dst = true) (hev:evOp P o.op (opd fr0) hm0 id = some out) (E:Env) :
  Sound P E N ops top True i ⟨(readsO ops o).map fun t=>(t,fr0 t),(mtouch (opd fr0) o.op).map fun l=>(l,hm0 l),o.dst,out.v,out.set,id,out.n⟩:=by
 intro fr hm F b g ac w ⟨h1,h2⟩ hF hFb htop hs K Q hK
 have hr:∀ t ∈ readsO ops o,fr t = fr0 t:=fun t ht=>h1 (t,fr0 t) (List.mem_map.2 ⟨t,ht,rfl⟩)
 have hl:∀ l ∈ mtouch (opd fr0) o.op,hm l = hm0 l:=fun l hl=>h2 (l,hm0 l) (List.mem_map.2 ⟨l,hl,rfl⟩)
 have hev':evOp P o.op (opd fr) hm id = some out:=by rw [evOp_congr' (reads_op hr) hl]; exact hev
 obtain ⟨x,g',w',q1,q2,q3,q4⟩:=evOp_does hs hev' hF
 simp only [wpOp,ho]
 rw [guard_ok hs (by rw [reads_guard hr]; exact hg),if_pos rfl]
 refine .inl ?_
 have hs':=Sim.put hs q3 q4 hd q2
 have:=hK b g' _ w' (Nat.le_refl _) (fun _=>rfl) ⟨hs'.size,hs'.defers,hs'.fr,hs'.mem.fsub fun l hl=>⟨hl.1,hl.2.1⟩⟩
 unfold Oper.wp
 rcases q1 with q1 | ⟨q1,rfl⟩
 ·rw [q1]; exact this
 ·rw [q1]; exact this
theorem sound_skip {i:Nat} {o:Oper} {fr0:Nat→Option AV} {id:Nat} (ho:ops[i]? = some o) (hg:guardAV ops fr0 o = some false) (hd:dstOK N o.dst = true) (E:Env) :
  Sound P E N ops top True i ⟨(readsO ops o).map fun t=>(t,fr0 t),[],o.dst,.tuple [],[],id,0⟩:=by
 intro fr hm F b g ac w ⟨h1,h2⟩ hF hFb htop hs K Q hK
 have hr:∀ t ∈ readsO ops o,fr t = fr0 t:=fun t ht=>h1 (t,fr0 t) (List.mem_map.2 ⟨t,ht,rfl⟩)
 simp only [wpOp,ho]
 rw [guard_ok hs (by rw [reads_guard hr]; exact hg),if_neg (by simp)]
 have hs':=Sim.put hs (G.le_refl g) hs.mem hd (.tuple [] #[] rfl (by simp))
 exact hK b g _ w (Nat.le_refl _) (fun _=>rfl) ⟨hs'.size,hs'.defers,hs'.fr,hs'.mem.fsub fun l hl=>hl.1⟩
theorem Mem.new1 {E:Env} {F F':Nat→Prop} {hm:Nat→Option Blk} {g g':G} {w w':World} {nx id:Nat} {B:Blk} (h:Mem P E F hm g w) (h':Mem P E F' (upd hm nx (some B)) g' w') (hle:g.le g') (hB:ltNB 0 B = true) (hnx:F nx) (hid:F id) :
  ∃ g2,Mem P E (fun l=>F l∧¬ (id≤l∧l < id + 1)) (upd hm id (some B)) g2 w'∧g.le g2∧∀ y,VR g' (.map nx) y→VR g2 (.map id) y:=by
 have hno:∀ k,F k→hm k = none:=fun k hk=>by
  cases e:hm k with
  | none=>rfl
  | some C =>
   obtain ⟨d,hd⟩:=(h.blk k C e).def
   rw [h.fresh k hk] at hd; simp at hd
 have hsub:∀ l C,hm l = some C→upd hm nx (some B) l = some C:=fun l C e=>by
  rw [upd_ne]; · exact e
  ·intro e0; subst e0; rw [hno _ hnx] at e; simp at e
 have hA:Mem P E F hm ⟨g.μ,g'.I⟩ w':=Mem.res2 (set:=[]) h (h'.hsub hsub) hle (by simp)
 let g2:G:=⟨upd g.μ id (g'.μ nx),g'.I⟩
 have hle2:(⟨g.μ,g'.I⟩:G).le g2:=⟨fun l d e=>by
  show upd g.μ id _ l = _
  rw [upd_ne]; · exact e
  ·intro e0; subst e0; have e':g.μ l = some d:=e; rw [h.fresh _ hid] at e'; simp at e',fun _ _ _ e=>e⟩
 have hne:∀ l,l ≠ id→g2.μ l = g.μ l:=fun l hl=>upd_ne _ _ hl
 have hsm:g2.μ id = g'.μ nx:=upd_same _ _ _
 have hnew:BlkOK P g2 w' id B:=by
  have hb:=h'.blk nx B (upd_same _ _ _)
  cases B with
  | row ty cs =>
   rcases hb with ⟨q,arr,hq,hb,a1,a2,a3,a4⟩ | ⟨hq,a1⟩
   ·refine .inl ⟨q,arr,by rw [hsm]; exact hq,hb,a1,a2,a3,fun j v ej=>?_⟩
    obtain ⟨x,hx,hv⟩:=a4 j v ej
    exact ⟨x,hx,VR.closed (g:=g') (fun _ _ _ e=>e) (ltNL_get hB ej) hv⟩
   ·exact .inr ⟨by rw [hsm]; exact hq,a1⟩
  | mp es =>
   obtain ⟨q,arr,cl,hq,hb,a1,a2,a3⟩:=hb
   refine ⟨q,arr,cl,by rw [hsm]; exact hq,hb,a1,a2,fun j k v en c d=>?_⟩
   have:=a3 j k v en c d
   have hn:=ltNE_get hB c
   exact ⟨VR.closed (g:=g') (fun _ _ _ e=>e) hn.1 this.1,VR.closed (g:=g') (fun _ _ _ e=>e) hn.2 this.2⟩
 have cases':∀ l C,upd hm id (some B) l = some C→(l = id∧C = B)∨(l ≠ id∧hm l = some C):=fun l C e=>by
  by_cases e0:l = id
  ·subst e0; rw [upd_same] at e; simp at e; exact .inl ⟨rfl,e.symm⟩
  ·rw [upd_ne _ _ e0] at e; exact .inr ⟨e0,e⟩
 refine ⟨g2,{
  fresh:=fun l hl=>by rw [hne l (fun e=>hl.2 ⟨by omega,by omega⟩)]; exact h.fresh l hl.1
  blk:=fun l C e=>by
   rcases cases' l C e with ⟨rfl,rfl⟩ | ⟨h0,e⟩
   ·exact hnew
   ·exact (hA.blk l C e).mono hle2 fun _ _=>rfl
  sep:=fun l l' C C' p p' e e' hn hp hp'=>by
   rcases cases' l C e with ⟨h0,h1⟩ | ⟨h0,e⟩
   ·rcases cases' l' C' e' with ⟨h0',_⟩ | ⟨h0',e'⟩
    ·omega
    ·rw [hne l' h0'] at hp'
     rw [h0,hsm] at hp
     exact h'.sep nx l' B C' p p' (upd_same _ _ _) (hsub _ _ e') (fun e0=>by rw [← e0,hno _ hnx] at e'; simp at e') hp (hle.1 _ _ hp')
   ·rcases cases' l' C' e' with ⟨h0',_⟩ | ⟨h0',e'⟩
    ·rw [hne l h0] at hp
     rw [h0',hsm] at hp'
     exact h'.sep l nx C B p p' (hsub _ _ e) (upd_same _ _ _) (fun e0=>by rw [e0,hno _ hnx] at e; simp at e) (hle.1 _ _ hp) hp'
    ·exact hA.sep l l' C C' p p' e e' hn (by rw [← hne l h0]; exact hp) (by rw [← hne l' h0']; exact hp')
  imm:=h'.imm
  sepI:=fun l C p e hp=>by
   rcases cases' l C e with ⟨h0,h1⟩ | ⟨h0,e⟩
   ·rw [h0,hsm] at hp; exact h'.sepI nx B p (upd_same _ _ _) hp
   ·exact hA.sepI l C p e (by rw [← hne l h0]; exact hp)
  le0:=G.le_trans hA.le0 hle2
  os:=h'.os
  tape:=h'.tape
  output:=h'.output
  size:=h'.size
  keep:=h'.keep
  own:=fun l C p e hp=>by
   rcases cases' l C e with ⟨h0,h1⟩ | ⟨h0,e⟩
   ·rw [h0,hsm] at hp; exact h'.own nx B p (upd_same _ _ _) hp
   ·exact hA.own l C p e (by rw [← hne l h0]; exact hp)
  gl:=h'.gl
  immNew:=h'.immNew
  exact:=fun l ty cs p e hp he=>by
   rcases cases' l _ e with ⟨h0,h1⟩ | ⟨h0,e⟩
   ·rw [h0,hsm] at hp; exact h'.exact nx ty cs p (by rw [upd_same,h1]) hp he
   ·exact hA.exact l ty cs p e (by rw [← hne l h0]; exact hp) he },⟨fun l d e=>hle2.1 l d e,fun b o x e=>hle.2 b o x e⟩,fun y hy=>?_⟩
 cases hy with
 | map _ p e=>exact .map _ p (by rw [hsm]; exact e)
theorem sound_call {i:Nat} {o:Oper} {fr0:Nat→Option AV} {id:Nat} {c:Call} {r:CR} (ho:ops[i]? = some o) (hop:o.op = .call c) (hg:guardAV ops fr0 o = some true) (hd:dstOK N o.dst = true) (hc:callee (opd fr0) c = some (r.f,r.args)) (hr:CROK P r) (E:Env) :
  Sound P E N ops top True i ⟨(readsO ops o).map fun t=>(t,fr0 t),r.hs,o.dst,vT r.v r.hs r.set id,setT r.v r.hs r.set id,id,nT r.v r.hs r.set⟩:=by
 intro fr hm F b g ac w ⟨h1,h2r⟩ hF hFb htop hs K Q hK
 have hrd:∀ t ∈ readsO ops o,fr t = fr0 t:=fun t ht=>h1 (t,fr0 t) (List.mem_map.2 ⟨t,ht,rfl⟩)
 have hops:=reads_op hrd
 simp only [wpOp,ho]
 rw [guard_ok hs (by rw [reads_guard hrd]; exact hg),if_pos rfl]
 refine .inl ?_
 obtain ⟨cal,cargs,cts⟩:=c
 rw [hop] at hops
 have hc':callee (opd fr) ⟨cal,cargs,cts⟩ = some (r.f,r.args):=by
  rw [← hc]
  unfold callee
  cases cal with
  | value x =>
   simp only
   rw [hops x (by simp [Op.operands,Call.operands]),opsAV_congr fun y hy=>hops y (by simp [Op.operands,Call.operands]; exact .inr (by simpa using hy))]
  | _=>rfl
 have hT:∃ Q0,Triple P r.f r.args hm b Q0∧∀ rr hm' nx' g' w',Q0 rr hm' nx'→Mem P E (fun l=>F l∧¬ (b≤l∧l < nx')) hm' g' w'→g.le g'→∃ v,rr = .ret v∧∀ y,VR g' v y→∃ g2,Mem P E (fun l=>F l∧¬ (id≤l∧l < id + nT r.v r.hs r.set)) (applyS hm (setT r.v r.hs r.set id)) g2 w'∧g.le g2∧VR g2 (vT r.v r.hs r.set id) y:=by
  unfold CROK at hr
  split at hr
  ·rename_i B hnb
   obtain ⟨hB,h0,hT⟩:=hr
   have e1:vT r.v r.hs r.set id = .map id:=by simp only [vT,hnb]
   have e2:setT r.v r.hs r.set id = [(id,some B)]:=by simp only [setT,hnb]
   have e3:nT r.v r.hs r.set = 1:=by simp only [nT,hnb]
   rw [e1,e2,e3]
   refine ⟨_,hT hm b,?_⟩
   rintro rr hm' nx' g' w' ⟨rfl,rfl⟩ hM hle
   refine ⟨_,rfl,fun y hy=>?_⟩
   obtain ⟨g2,q1,q2,q3⟩:=Mem.new1 hs.mem hM hle hB (hFb b (Nat.le_refl _)) (by have:=hF 0 (by show 0 < nT r.v r.hs r.set; rw [e3]; omega); simpa using this)
   exact ⟨g2,q1,q2,q3 y hy⟩
  ·rename_i hnb
   obtain ⟨hcl,hset,hT⟩:=hr
   have e1:vT r.v r.hs r.set id = r.v:=by simp only [vT,hnb]
   have e2:setT r.v r.hs r.set id = r.set:=by simp only [setT,hnb]
   have e3:nT r.v r.hs r.set = 0:=by simp only [nT,hnb]
   rw [e1,e2,e3]
   refine ⟨_,hT hm b h2r,?_⟩
   rintro rr hm' nx' g' w' ⟨rfl,rfl⟩ hM hle
   refine ⟨_,rfl,fun y hy=>?_⟩
   have q2':=Mem.res2 hs.mem hM hle (fun x hx=>by obtain ⟨B,e1,e2,C,e3⟩:=hset x hx; exact ⟨B,e1,e2,C,h2r _ e3⟩)
   exact ⟨⟨g.μ,g'.I⟩,q2'.fsub fun l hl=>hl.1,⟨fun _ _ e=>e,hle.2⟩,VR.closed (g:=g') (fun _ _ _ e=>e) hcl hy⟩
 obtain ⟨Q0,hT,hpost⟩:=hT
 unfold callee at hc'
 cases cal with
 | value x =>
  simp only at hc'
  split at hc'
  ·rename_i f' p q l' hx hl
   simp only [Option.some.injEq,Prod.mk.injEq] at hc'
   obtain ⟨hf,ha⟩:=hc'
   rw [← hf,← ha] at hT
   have hρ:∀ x v,opd fr x = some v→VR g v (ac.eval x):=fun x v=>opd_ok hs
   have hvx:=hρ _ _ hx
   have hvl:=ops_ok hρ hl
   cases he:ac.eval x <;> rw [he] at hvx <;> cases hvx
   rename_i xs ys e1 e2 e3 e4
   have h1:=vrs_of_arr e1 e2
   have h2:=vrs_of_arr e3 e4
   have hrun:(execOp ac.eval o).run P w = .ok (.enter f' (xs ++ cargs.map ac.eval ++ ys)) w:=by
    simp [execOp,hop,resolve,he,Deferred.ofValue,invoke,callFunc_ok hT.1]
   unfold Oper.wp
   rw [hrun]
   have hcall:=hT.2 E F g w _ hFb hs.mem ((h1.append hvl).append h2)
   have harr:(xs.toList ++ cargs.toList.map ac.eval ++ ys.toList).toArray = xs ++ cargs.map ac.eval ++ ys:=Array.ext' (by simp)
   rw [harr] at hcall
   rw [Oper.upon_enter]
   refine hcall.mono fun e w' ⟨rr,hm',nx',g',q1,q2,q3,q4,q5⟩=>?_
   obtain ⟨v,rfl,hp⟩:=hpost rr hm' nx' g' w' q5 q2 q3
   cases e <;> first | exact q1.elim | skip
   obtain ⟨g2,p1,p2,p3⟩:=hp _ q1
   have hs':=Sim.put hs p2 p1 hd p3
   refine hK b _ _ w' (Nat.le_refl _) (fun _=>rfl) ⟨hs'.size,hs'.defers,hs'.fr,hs'.mem.fsub fun l hl=>⟨hl.1,hl.2.1⟩⟩
  ·simp at hc'
 | _=>simp at hc'
theorem map_fst {α β:Type} (f:α→β):∀ (l:List α),((l.map fun t=>(t,f t)).map (·.1)) = l
 | []=>rfl
 | x :: l=>by simp only [List.map_cons,map_fst f l]
theorem runD_ok {ops:Array Oper}:∀ {l:List Oper} {cs:List CR} {s s':St} {fs:List Foot} {k:Nat},runD P N ops l cs s = some (fs,s')→(∀ c ∈ cs,CROK P c)→(∀ j,j < l.length→l[j]? = ops[k + j]?) →
  s.nx≤s'.nx∧fs.length = l.length∧∃ R:List (Nat × LS),R.map (·.1) = List.range' k l.length∧Runs R (s.fr,s.hm) (s'.fr,s'.hm)∧(∀ x ∈ R,∀ E top,Sound P E N ops top True x.1 x.2)∧idsApart R∧(∀ x ∈ R,s.nx≤x.2.id∧x.2.id + x.2.n≤s'.nx) ∧
   (∀ (j:Nat) x,R[j]? = some x→∃ o f,l[j]? = some o∧fs[j]? = some f∧x.2.dst = o.dst∧x.2.ts.map (·.1) = readsO ops o∧(∀ y ∈ x.2.hs,y.1 ∈ f.1)∧(∀ y ∈ x.2.set,y.1 ∈ f.2)∧(writesM o.op = false→f.2 = [])∧(readsM o.op = false→f.1 = []))
 | [],cs,s,s',fs,k,h,hcs,hl=>by
  simp [runD] at h
  obtain ⟨rfl,rfl⟩:=h
  exact ⟨Nat.le_refl _,rfl,[],rfl,rfl,by simp,trivial,by simp,by simp⟩
 | o :: l,cs,s,s',fs,k,h,hcs,hl=>by
  have ho:ops[k]? = some o:=by have:=hl 0 (by simp); simpa using this.symm
  have hl':∀ j,j < l.length→l[j]? = ops[k + 1 + j]?:=fun j hj=>by have:=hl (j + 1) (by simpa using hj); rw [show k + 1 + j = k + (j + 1) by omega]; simpa using this
  have put:∀ {cs':List CR} {s1:St} {fs1:List Foot} {f:Foot} {a:LS},(∀ c ∈ cs',CROK P c)→runD P N ops l cs' s1 = some (fs1,s')→a.app (s.fr,s.hm) = (s1.fr,s1.hm)→a.agree (s.fr,s.hm)→a.id = s.nx→s1.nx = s.nx + a.n →
    (∀ E top,Sound P E N ops top True k a)→a.dst = o.dst→a.ts.map (·.1) = readsO ops o→(∀ y ∈ a.hs,y.1 ∈ f.1)→(∀ y ∈ a.set,y.1 ∈ f.2)→(writesM o.op = false→f.2 = [])→(readsM o.op = false→f.1 = []) →
    s.nx≤s'.nx∧(f :: fs1).length = (o :: l).length∧∃ R:List (Nat × LS),R.map (·.1) = List.range' k (o :: l).length∧Runs R (s.fr,s.hm) (s'.fr,s'.hm)∧(∀ x ∈ R,∀ E top,Sound P E N ops top True x.1 x.2)∧idsApart R∧(∀ x ∈ R,s.nx≤x.2.id∧x.2.id + x.2.n≤s'.nx) ∧
     (∀ (j:Nat) x,R[j]? = some x→∃ o' f',(o :: l)[j]? = some o'∧(f :: fs1)[j]? = some f'∧x.2.dst = o'.dst∧x.2.ts.map (·.1) = readsO ops o'∧(∀ y ∈ x.2.hs,y.1 ∈ f'.1)∧(∀ y ∈ x.2.set,y.1 ∈ f'.2)∧(writesM o'.op = false→f'.2 = [])∧(readsM o'.op = false→f'.1 = [])):=by
   intro cs' s1 fs1 f a hcs' h1 happ hag hid hn hsnd hdst hts hhs hset hw1 hw2
   obtain ⟨p1,p2,R,p3,p4,p5,p6,p7,p8⟩:=runD_ok h1 hcs' hl'
   refine ⟨by omega,by simp [p2],(k,a) :: R,?_,⟨hag,by rw [happ]; exact p4⟩,?_,⟨fun y hy=>?_,p6⟩,?_,?_⟩
   ·simp [p3,List.range'_succ]
   ·intro x hx E top
    simp at hx
    rcases hx with rfl | hx
    ·exact hsnd E top
    ·exact p5 x hx E top
   ·have:=(p7 y hy).1
    show a.id + a.n≤y.2.id; omega
   ·intro x hx
    simp at hx
    rcases hx with rfl | hx
    ·show s.nx≤a.id∧a.id + a.n≤s'.nx; omega
    ·have:=p7 x hx; omega
   ·intro j x hx
    cases j with
    | zero=>simp at hx; subst hx; exact ⟨o,f,rfl,rfl,hdst,hts,hhs,hset,hw1,hw2⟩
    | succ j=>simp at hx; obtain ⟨o',f',q⟩:=p8 j x hx; exact ⟨o',f',by simpa using q⟩
  simp only [runD] at h
  split at h
  ·rename_i hg hd
   split at h
   ·rename_i out hev
    split at h
    ·rename_i fs1 s1 h1
     simp at h
     obtain ⟨rfl,rfl⟩:=h
     exact put (a:=⟨(readsO ops o).map fun t=>(t,s.fr t),(mtouch (opd s.fr) o.op).map fun l=>(l,s.hm l),o.dst,out.v,out.set,s.nx,out.n⟩) hcs h1 rfl
      ⟨fun x hx=>by obtain ⟨t,_,rfl⟩:=List.mem_map.1 hx; rfl,fun x hx=>by obtain ⟨t,_,rfl⟩:=List.mem_map.1 hx; rfl⟩ rfl rfl
      (fun E top=>sound_op ho hg hd hev E) rfl (map_fst _ _) (fun y hy=>by obtain ⟨t,ht,rfl⟩:=List.mem_map.1 hy; exact ht) (fun y hy=>List.mem_map.2 ⟨y,hy,rfl⟩) (fun hw=>by rw [evOp_pure hw hev]; rfl) (fun hr=>by simp [mtouch,hr])
    ·simp at h
   ·split at h
    ·rename_i c r cs2 hop
     split at h
     ·rename_i hc
      split at h
      ·rename_i fs1 s1 h1
       simp at h
       obtain ⟨rfl,rfl⟩:=h
       exact put (a:=⟨(readsO ops o).map fun t=>(t,s.fr t),r.hs,o.dst,vT r.v r.hs r.set s.nx,setT r.v r.hs r.set s.nx,s.nx,nT r.v r.hs r.set⟩) (fun c hc'=>hcs c (by simp [hc'])) h1 rfl
        ⟨fun x hx=>by obtain ⟨t,_,rfl⟩:=List.mem_map.1 hx; rfl,hc.2⟩ rfl rfl
        (fun E top=>sound_call ho hop hg hd hc.1 (hcs r (by simp)) E) rfl (map_fst _ _) (fun y hy=>List.mem_map.2 ⟨y,hy,rfl⟩) (fun y hy=>List.mem_map.2 ⟨y,hy,rfl⟩) (fun hw=>by
        rw [hop] at hw
        have hcc:=hc.1
        obtain ⟨cal,ca,ct⟩:=c
        unfold callee at hcc
        cases cal <;> simp [writesM] at hw hcc) (fun hr=>by rw [hop] at hr; simp [readsM] at hr)
      ·simp at h
     ·simp at h
    ·simp at h
  ·rename_i hg hd
   split at h
   ·rename_i fs1 s1 h1
    simp at h
    obtain ⟨rfl,rfl⟩:=h
    exact put (a:=⟨(readsO ops o).map fun t=>(t,s.fr t),[],o.dst,.tuple [],[],s.nx,0⟩) hcs h1 rfl
     ⟨fun x hx=>by obtain ⟨t,_,rfl⟩:=List.mem_map.1 hx; rfl,fun x hx=>by simp at hx⟩ rfl rfl
     (fun E top=>sound_skip ho hg hd E) rfl (map_fst _ _) (fun y hy=>by simp at hy) (fun y hy=>by simp at hy) (fun _=>rfl) (fun _=>rfl)
   ·simp at h
  ·simp at h
theorem stat_pair:∀ {l:List Oper} {k:Nat},statAll ops k l = true→∀ (p q:Nat) a b,p < q→l[p]? = some a→l[q]? = some b→leads (ancs ops.toList) (k + p) (k + q) = true∨tmpIndO ops a b = true
 | [],k,h,p,q,a,b,hpq,ha,hb=>by simp at ha
 | c :: l,k,h,p,q,a,b,hpq,ha,hb=>by
  simp only [statAll,Bool.and_eq_true] at h
  have one:∀ {l:List Oper} {m:Nat},statOne ops k c m l = true→∀ (q:Nat) b,l[q]? = some b→leads (ancs ops.toList) k (m + q) = true∨tmpIndO ops c b = true:=by
   intro l
   induction l with
   | nil=>intro m _ q b hb; simp at hb
   | cons d l ih =>
    intro m hm q b hb
    simp only [statOne,Bool.and_eq_true,Bool.or_eq_true] at hm
    cases q with
    | zero=>simp at hb; subst hb; exact hm.1
    | succ q=>have:=ih hm.2 q b (by simpa using hb); rwa [show m + 1 + q = m + (q + 1) by omega] at this
  cases p with
  | zero =>
   simp at ha; subst ha
   cases q with
   | zero=>omega
   | succ q=>have:=one h.1 q b (by simpa using hb); rwa [show k + 1 + q = k + (q + 1) by omega] at this
  | succ p =>
   cases q with
   | zero=>omega
   | succ q =>
    have:=stat_pair h.2 p q a b (by omega) (by simpa using ha) (by simpa using hb)
    rwa [show k + 1 + p = k + (p + 1) by omega,show k + 1 + q = k + (q + 1) by omega] at this
theorem ind_of {R:List (Nat × LS)} (h:∀ (p q:Nat) x y,p < q→R[p]? = some x→R[q]? = some y→Way ops.toList x.1 y.1∨(x.2.tmpInd y.2 = true∧x.2.locInd y.2)):indAll ops.toList R:=by
 induction R with
 | nil=>trivial
 | cons x R ih =>
  refine ⟨?_,ih fun p q a b hpq ha hb=>h (p + 1) (q + 1) a b (by omega) (by simpa using ha) (by simpa using hb)⟩
  have one:∀ (R':List (Nat × LS)),(∀ y ∈ R',Way ops.toList x.1 y.1∨(x.2.tmpInd y.2 = true∧x.2.locInd y.2))→indOne ops.toList x.1 x.2 R':=by
   intro R'
   induction R' with
   | nil=>intro _; trivial
   | cons y R' ih=>intro hy; exact ⟨hy y (by simp),ih fun z hz=>hy z (by simp [hz])⟩
  refine one R fun y hy=>?_
  obtain ⟨q,hq⟩:=List.getElem?_of_mem hy
  exact h 0 (q + 1) x y (by omega) rfl (by simpa using hq)
variable {K:Ex→St→Prop}
def tailAll (ops:Array Oper) (m:Nat):Bool:=(List.range' m (ops.size - m)).all fun i=>(List.range i).all fun j=>leads (ancs ops.toList) j i
theorem tail_way {m:Nat} (h:tailAll ops m = true):∀ i j,m≤i→i < ops.size→j < i→Way ops.toList j i:=fun i j h1 h2 h3=>by
 unfold tailAll at h
 rw [List.all_eq_true] at h
 have:=h i (by rw [List.mem_range'_1]; omega)
 rw [List.all_eq_true] at this
 exact leads_ok (this j (by simpa using h3))
def drawOK (ops:Array Oper) (m:Nat):Bool:=back ops.toList && statAll ops 0 (ops.toList.take m) && decide (m≤ops.size) && tailAll ops m
theorem aw_drawn {id:Nat} {L L':List (Nat × AV)} {hm hm':Nat→Option Blk} {nx nx':Nat} {fs:List Foot} (m:Nat) (prs:List (Nat × Nat)) (ts:List Nat) (cs:List CR) (hmix:P.follows .mixedOrders = true) (hst:drawOK ops m = true) (hpr:meets (ancs ops.toList) 0 (ops.toList.take m) = prs) (hcs:∀ c ∈ cs,CROK P c)
  (h:runD P N ops (ops.toList.take m) cs ⟨lk L,hm,nx⟩ = some (fs,⟨lk L',hm',nx'⟩)) (hloc:locL fs prs) {L2:List (Nat × AV)} (h2:keepL ts L' = L2) (hk:RW P E N ops (ops.toList.drop m) ⟨lk L2,hm',nx'⟩ K):AW P E N (.region id ops true) ⟨lk L,hm,nx⟩ K:=by
 subst h2
 simp only [drawOK,Bool.and_eq_true,decide_eq_true_eq] at hst
 obtain ⟨⟨⟨hst1,hst2⟩,hmle⟩,hst3⟩:=hst
 have htk:∀ j,(ops.toList.take m)[j]? = if j < m then ops[0 + j]? else none:=fun j=>by rw [List.getElem?_take]; simp
 have hlen:(ops.toList.take m).length = m:=by simp; omega
 obtain ⟨p1,p2,R,p3,p4,p5,p6,p7,p8⟩:=runD_ok h hcs (k:=0) (fun j hj=>by rw [htk,if_pos (by omega)])
 rw [hlen] at p3
 have hRlen:R.length = m:=by have:=congrArg List.length p3; simpa using this
 refine aw_draw (top:=nx') (ex:=True) (t:=(lk L',hm')) hmix R hst1 hmle (tail_way hst3) (by rw [p3,List.range_eq_range']) p4 ?_ (fun x hx E=>p5 x hx E nx') p6 p7 p1 (fun b hb hbe=>by obtain rfl:=hbe trivial; exact RW.weaken hk (keepL_sub ts L') (fun _ _ e=>e) (Nat.le_refl _))
 refine ind_of fun p q x y hpq hx hy=>?_
 have hi:∀ (p:Nat) x,R[p]? = some x→x.1 = p:=fun p x hx=>by
  have:=congrArg (·[p]?) p3
  simp only [List.getElem?_map,hx,Option.map_some] at this
  have hlt:p < m:=by have:=(List.getElem?_eq_some_iff.1 hx).1; omega
  rw [List.getElem?_range' hlt] at this
  simp at this; exact this
 rw [hi p x hx,hi q y hy]
 obtain ⟨oa,fa,a1,a2,a3,a4,a5,a6,a7⟩:=p8 p x hx
 obtain ⟨ob,fb,b1,b2,b3,b4,b5,b6,b7⟩:=p8 q y hy
 rcases stat_pair hst2 p q oa ob hpq a1 b1 with h1 | h1
 ·left; exact leads_ok (by simpa using h1)
 ·have h2:Way ops.toList p q∨apart fa fb:=by
   rcases meets_mem (A:=ancs ops.toList) (k:=0) p q oa ob hpq a1 b1 with h | h | h
   ·left; exact leads_ok (by simpa using h)
   ·right
    simp only [mayMeet,Bool.or_eq_false_iff,Bool.and_eq_false_iff] at h
    obtain ⟨h3,h4⟩:=h
    refine ⟨fun x hx=>⟨fun y hy=>?_,fun y hy=>?_⟩,fun x hx y hy=>?_⟩
    ·rcases h3 with h3 | h3
     ·rw [a7.1 h3] at hx; simp at hx
     ·rw [b7.2 h3.2] at hy; simp at hy
    ·rcases h3 with h3 | h3
     ·rw [a7.1 h3] at hx; simp at hx
     ·rw [b7.1 h3.1] at hy; simp at hy
    ·rcases h4 with h4 | h4
     ·rw [b7.1 h4] at hx; simp at hx
     ·rw [a7.2 h4] at hy; simp at hy
   ·right
    rw [hpr] at h
    obtain ⟨a,b,e1,e2,e3⟩:=locL_mem hloc _ h
    simp only [Nat.zero_add] at e1 e2
    rw [a2] at e1; rw [b2] at e2; simp at e1 e2; subst e1 e2; exact e3
  rcases h2 with h2 | h2
  ·left; exact h2
  ·right
   refine ⟨?_,⟨fun u hu=>⟨fun v hv=>(h2.1 _ (a6 u hu)).1 _ (b5 v hv),fun v hv=>(h2.1 _ (a6 u hu)).2 _ (b6 v hv)⟩,fun u hu v hv=>h2.2 _ (b6 u hu) _ (a5 v hv)⟩⟩
   have hall:∀ (z:LS) o d,z.ts.map (·.1) = readsO ops o→(readsO ops o).all (fun x=>x != d) = true→z.ts.all (fun x=>x.1 != d) = true:=fun z o d e h=>by
    rw [← e,List.all_map] at h; exact h
   simp only [tmpIndO,Bool.and_eq_true] at h1
   simp only [LS.tmpInd,Bool.and_eq_true]
   rw [a3,b3]
   refine ⟨?_,?_⟩
   ·cases hd:oa.dst with
    | none=>rfl
    | some d =>
     have:=h1.1
     rw [hd] at this
     simp only [Bool.and_eq_true] at this ⊢
     exact ⟨hall _ _ _ b4 this.1,this.2⟩
   ·cases hd:ob.dst with
    | none=>rfl
    | some d =>
     have:=h1.2
     rw [hd] at this
     exact hall _ _ _ a4 this
end
end Go.SL
namespace Go.SL
open Go.RowKit
section
variable {P:Program} {w:World}
theorem run_nilq {t e:TypeId} (hk:kOf P t = some (.slice e)) {b:Option Addr} {n c:Nat} (m:Nat):(Op.equalIn (m + 1) t (.slice b n c) (.slice none 0 0)).run P w = .ok b.isNone w:=by
 obtain ⟨d,hd,hkd⟩:=kOf_ok hk
 obtain rfl:=kind_slice hkd
 cases b <;> simp [Op.equalIn,run_und hd]
theorem run_nil {t e:TypeId} (hk:kOf P t = some (.slice e)) (x y:Operand) {b:Option Addr} {n c:Nat} :
  (do eqGuard .eql t x y (.slice b n c) (.slice none 0 0); binOp .eql t (.slice b n c) (.slice none 0 0):Sem Value).run P w = .ok (.bool b.isNone) w:=by
 have hq:=run_nilq (P:=P) (w:=w) (b:=b) (n:=n) (c:=c) hk 9999
 have hg:(eqGuard .eql t x y (.slice b n c) (.slice none 0 0)).run P w = .ok () w:=guard_none (by simp) (by simp)
 simp only [Sem.run_bind,hg,Result.andThen_ok]
 simp [binOp,Op.equal,Op.maxDepth,hq]
end
variable {P:Program} {E:Env} {N:Nat} {ops:Array Oper} {K:Ex→St→Prop}
theorem rw_isnil {o:Oper} {l:List Oper} {s:St} {t yt e:TypeId} {x y:Operand} {sz n:Nat} {f:Nat→List AV} (ho:o.op = .binOp .eql t x y yt) (hx:opd s.fr x = some (.lst sz n f)) (hy:opd s.fr y = some .nilSlice) (hk:kOf P t = some (.slice e)) (hg:guardAV ops s.fr o = some true) (hd:dstOK N o.dst = true)
  (h1:n = 0→RW P E N ops l ⟨putO s.fr o.dst (.bool true),s.hm,s.nx⟩ K) (h2:RW P E N ops l ⟨putO s.fr o.dst (.bool false),s.hm,s.nx⟩ K):RW P E N ops (o :: l) s K:=fun g a w hs=>by
 have hvx:=opd_ok hs.sim hx
 have hvy:=opd_ok hs.sim hy
 have key:∃ b,(execOp a.eval o).run P w = .ok (.value (.bool b)) w∧(b = true→n = 0):=by
  obtain ⟨dst,op,ty,pos,aft,gd⟩:=o
  simp only at ho
  subst ho
  cases hb2:a.eval y <;> rw [hb2] at hvy <;> cases hvy
  cases hvx with
  | lst _ _ _ _ e' =>
   generalize hL:(List.range n).map f = L at e'
   generalize hX:a.eval x = X at e'
   have hr:=fun b n c=>run_nil (P:=P) (w:=w) (b:=b) (n:=n) (c:=c) hk x y
   cases e' with
   | list _ _ b o c f' e1 e2 e3 e4 =>
    refine ⟨false,?_,by simp⟩
    have:=hr (some ⟨b,o,none⟩) L.length c
    simp only [execOp,hX,hb2,Sem.run_bind,this,Result.andThen_ok,Sem.run_pure,Option.isNone]
   | list0 =>
    refine ⟨true,?_,fun _=>by have:=congrArg List.length hL; simpa using this⟩
    have:=hr none 0 0
    simp only [execOp,hX,hb2,Sem.run_bind,this,Result.andThen_ok,Sem.run_pure,Option.isNone]
 obtain ⟨b,hrun,hn⟩:=key
 have hs':Sm P E N ⟨putO s.fr o.dst (.bool b),s.hm,s.nx⟩ g (a.put o.dst (.bool b)) w:=⟨Sim.put hs.sim (G.le_refl g) hs.sim.mem hd (.bool b),hs.nx⟩
 simp only [wpList]
 rw [guard_ok hs.sim hg,if_pos rfl]
 refine .inl ?_
 unfold Oper.wp
 rw [hrun]
 cases b with
 | true=>exact h1 (hn rfl) g _ w hs'
 | false=>exact h2 g _ w hs'
end Go.SL
