import Derived.Test.YtgbcmddacencjaaDoorSLkm
set_option linter.unusedSimpArgs false
set_option linter.unusedVariables false
namespace Go.SL
open Go.RowKit
structure Tab where
 k:Nat→Option TK
 sz:Nat→Option Nat
 ti:Nat→Option TI
 ex:Nat→Bool
 pl:Nat→Bool
 ne:Nat→Bool
 co:Nat→Nat
 li:Nat→Nat→Nat→Bool
def Tab.of (P:Program):Tab:=⟨kOf P,szOf P,tiOf P,exB P,plainS P,noEsc P,P.cellsOf,fun ty n u=>liesAt P P.depth ty (n / P.cellsOf ty) 0 u 1⟩
inductive Cnd where
 | b (x:Bool)
 | p (q:Prop)
def AllT:List Cnd→Prop
 | []=>True
 | .b c :: r=>c = true∧AllT r
 | .p q :: r=>q∧AllT r
theorem AllT.append:∀ {a b:List Cnd},AllT (a ++ b)→AllT a∧AllT b
 | [],b,h=>⟨trivial,h⟩
 | .b c :: a,b,h=>by obtain ⟨h1,h2⟩:=AllT.append (a:=a) h.2; exact ⟨⟨h.1,h1⟩,h2⟩
 | .p c :: a,b,h=>by obtain ⟨h1,h2⟩:=AllT.append (a:=a) h.2; exact ⟨⟨h.1,h1⟩,h2⟩
def rng (n:Int):Bool:=decide (-9223372036854775808≤n∧n≤9223372036854775807)
theorem wrap_rng {n:Int} (h:rng n = true):IntKind.i64.wrap n = n:=by
 simp only [rng,decide_eq_true_eq] at h
 have e1:(2:Int) ^ 64 = 18446744073709551616:=rfl
 have e2:(2:Int) ^ (64 - 1) = 9223372036854775808:=rfl
 simp only [IntKind.wrap,IntKind.bits,IntKind.signed,Bool.true_and,decide_eq_true_eq,e1,e2]
 split <;> omega
def is64:IntKind→Bool | .i64=>true | _=>false
theorem is64_ok {k:IntKind} (h:is64 k = true):k = .i64:=by cases k <;> simp [is64] at h ⊢
def wrC (k:IntKind) (n:Int):Int × List Cnd:=match is64 k with | true=>(n,[.b (rng n)]) | false=>(k.wrap n,[])
theorem wrC_ok {k:IntKind} {n:Int} (h:AllT (wrC k n).2):(wrC k n).1 = k.wrap n:=by
 unfold wrC at h ⊢
 cases e:is64 k with
 | true=>rw [e] at h; obtain rfl:=is64_ok e; exact (wrap_rng h.1).symm
 | false=>rfl
def intC (op:BinOp) (k k':IntKind) (x y:Int):Option (AV × List Cnd) :=
 match op with
 | .shl=>some (.int k (k.wrap (x * 2 ^ min y.toNat k.bits)),[.b (decide (0≤y))])
 | .shr=>some (.int k (x.fdiv (2 ^ min y.toNat k.bits)),[.b (decide (0≤y))])
 | op=>if k = k' then
   match op with
   | .add=>some (.int k (wrC k (x + y)).1,(wrC k (x + y)).2)
   | .sub=>some (.int k (wrC k (x - y)).1,(wrC k (x - y)).2)
   | .mul=>some (.int k (wrC k (x * y)).1,(wrC k (x * y)).2)
   | .quo=>some (.int k (wrC k (x.tdiv y)).1,Cnd.b (decide (y ≠ 0)) :: (wrC k (x.tdiv y)).2)
   | .rem=>some (.int k (x.tmod y),[.b (decide (y ≠ 0))])
   | op=>(evInt op k x y).map fun v=>(v,[])
  else none
def strC (op:BinOp) (a b:ByteArray):Option (AV × List Cnd) :=
 match op with
 | .add=>some (.str (a ++ b),[.b (decide (a.size + b.size≤9223372036854775807))])
 | op=>(evStr op a b).map fun v=>(v,[])
def binC (T:Tab) (op:BinOp) (t:TypeId) (a b:AV):Option (AV × List Cnd) :=
 match a,b with
 | .int k x,.int k' y=>intC op k k' x y
 | .str x,.str y=>strC op x y
 | a,b=>match T.k t with
  | some k=>match evEq k a b with
   | some r=>match op with | .eql=>some (.bool r,[]) | .neq=>some (.bool !r,[]) | _=>none
   | none=>none
  | none=>none
theorem binC_ok {P:Program} {op:BinOp} {t:TypeId} {a b v:AV} {c:List Cnd} (h:binC (Tab.of P) op t a b = some (v,c)) (hc:AllT c):evBin P op t a b = some v:=by
 unfold binC at h
 unfold evBin
 split at h
 ·rename_i k x k' y
  unfold intC at h
  simp only
  split at h
  ·simp only [Option.some.injEq,Prod.mk.injEq] at h; obtain ⟨rfl,rfl⟩:=h; simp only [AllT,and_true,decide_eq_true_eq,ne_eq] at hc; simp only [evShift]; rw [if_neg (by omega)]
  ·simp only [Option.some.injEq,Prod.mk.injEq] at h; obtain ⟨rfl,rfl⟩:=h; simp only [AllT,and_true,decide_eq_true_eq,ne_eq] at hc; simp only [evShift]; rw [if_neg (by omega)]
  ·rename_i hn1 hn2
   split at h
   ·rename_i hk
    subst hk
    split <;> first | (exfalso; first | exact hn1 rfl | exact hn2 rfl) | skip
    rw [if_pos rfl]
    split at h
    ·simp only [Option.some.injEq,Prod.mk.injEq] at h; obtain ⟨rfl,rfl⟩:=h; simp only [evInt,wrC_ok hc]
    ·simp only [Option.some.injEq,Prod.mk.injEq] at h; obtain ⟨rfl,rfl⟩:=h; simp only [evInt,wrC_ok hc]
    ·simp only [Option.some.injEq,Prod.mk.injEq] at h; obtain ⟨rfl,rfl⟩:=h; simp only [evInt,wrC_ok hc]
    ·simp only [Option.some.injEq,Prod.mk.injEq] at h; obtain ⟨rfl,rfl⟩:=h
     obtain ⟨h0,h1⟩:=hc
     simp only [decide_eq_true_eq] at h0
     simp only [evInt,wrC_ok h1,if_neg h0]
    ·simp only [Option.some.injEq,Prod.mk.injEq] at h; obtain ⟨rfl,rfl⟩:=h; simp only [AllT,and_true,decide_eq_true_eq,ne_eq] at hc; simp only [evInt,if_neg hc]
    ·simp at h; obtain ⟨a,h1,rfl,_⟩:=h; exact h1
   ·simp at h
 ·rename_i x y
  unfold strC at h
  simp only
  split at h
  ·simp only [Option.some.injEq,Prod.mk.injEq] at h; obtain ⟨rfl,rfl⟩:=h; simp only [AllT,and_true,decide_eq_true_eq,ne_eq] at hc; simp only [evStr]; rw [if_pos hc]
  ·simp at h; obtain ⟨a,h1,rfl,_⟩:=h; exact h1
 ·rename_i hn1 hn2
  split
  ·exact absurd rfl (hn1 _ _ _ _ rfl)
  ·exact absurd rfl (hn2 _ _ rfl)
  ·split at h
   ·rename_i k hk
    have hk':kOf P t = some k:=hk
    rw [hk']
    simp only
    split at h
    ·rename_i r hr
     split at h <;> simp at h <;> obtain ⟨rfl,_⟩:=h <;> simp [hr]
    ·simp at h
   ·simp at h
def fieldC (T:Tab) (t:TypeId) (f:Nat):Option (Nat × TypeId) :=
 match T.k t with
 | some (.struct fs)=>fs[f]?
 | _=>none
def partC (T:Tab) (t:TypeId) (cs:List AV) (off:Nat):Option AV :=
 match T.k t,T.sz t with
 | some k,some n=>if k.isAgg then some (.agg ((cs.drop off).take n)) else cs[off]?
 | _,_=>none
def ixAddrC (T:Tab) (t:TypeId) (x:AV) (i:Int):Option (AV × List Cnd) :=
 match T.k t,x with
 | some (.slice e),.slice l off len sz=>match T.sz e with
  | some n=>if n = sz then some (.ptr l (off + i.toNat * n),[.b (decide (0≤i∧i < len))]) else none
  | none=>none
 | some (.slice e),.list sz xs=>match T.sz e with
  | some n=>if n = sz∧0≤i then (match xs[i.toNat]? with | some cs=>some (.ref cs 0,[]) | none=>none) else none
  | none=>none
 | some (.slice e),.lst sz m f=>match T.sz e with
  | some n=>if n = sz then some (.ref (f i.toNat) 0,[.b (decide (0≤i∧i < m))]) else none
  | none=>none
 | some (.array m e),p=>match T.sz e with
  | some n=>match shift (i.toNat * n) p with | some q=>some (q,[.b (decide (0≤i∧i < m))]) | none=>none
  | none=>none
 | _,_=>none
theorem ixAddrC_ok {P:Program} {t:TypeId} {x v:AV} {i:Int} {c:List Cnd} (h:ixAddrC (Tab.of P) t x i = some (v,c)) (hc:AllT c):evIndexAddr P t x i = some v:=by
 unfold ixAddrC at h
 split at h
 ·rename_i e l off len sz hk
  have hk':kOf P t = _:=hk
  split at h
  ·rename_i n hn
   have hn':szOf P e = _:=hn
   split at h
   ·rename_i hs
    simp only [Option.some.injEq,Prod.mk.injEq] at h; obtain ⟨rfl,rfl⟩:=h; simp only [AllT,and_true,decide_eq_true_eq,ne_eq] at hc
    simp only [evIndexAddr,evIndexAddr0,hk',hn']; rw [if_pos ⟨hs,hc⟩]
   ·simp at h
  ·simp at h
 ·rename_i e sz xs hk
  have hk':kOf P t = _:=hk
  split at h
  ·rename_i n hn
   have hn':szOf P e = _:=hn
   simp only [evIndexAddr,evIndexAddr0,hk',hn']
   split at h
   ·rename_i hs
    rw [if_pos hs]
    split at h
    ·rename_i cs hcs; simp at h; simp only [hcs,h.1]
    ·simp at h
   ·simp at h
  ·simp at h
 ·rename_i e sz m f hk
  have hk':kOf P t = _:=hk
  split at h
  ·rename_i n hn
   have hn':szOf P e = _:=hn
   split at h
   ·rename_i hs
    simp only [Option.some.injEq,Prod.mk.injEq] at h; obtain ⟨rfl,rfl⟩:=h; simp only [AllT,and_true,decide_eq_true_eq,ne_eq] at hc
    simp only [evIndexAddr,hk',hn']; rw [if_pos ⟨hs,hc⟩]
   ·simp at h
  ·simp at h
 ·rename_i m e hk
  have hk':kOf P t = _:=hk
  split at h
  ·rename_i n hn
   have hn':szOf P e = _:=hn
   split at h
   ·rename_i q hq
    simp only [Option.some.injEq,Prod.mk.injEq] at h; obtain ⟨rfl,rfl⟩:=h; simp only [AllT,and_true,decide_eq_true_eq,ne_eq] at hc
    rename_i y _ _ _ _
    cases y <;> simp [shift] at hq <;> subst hq <;> simp only [evIndexAddr,evIndexAddr0,hk',hn',if_pos hc,shift]
   ·simp at h
  ·simp at h
 ·simp at h
def byteAt (s:ByteArray) (i:Nat):Int:=match s[i]? with | some b=>(b.toNat:Int) | none=>0
def indexC (T:Tab) (t:TypeId) (x:AV) (i:Int):Option (AV × List Cnd) :=
 match x with
 | .str s=>match T.k t with
  | some .string=>some (.int .u8 (byteAt s i.toNat),[.b (decide (0≤i∧i < s.size))])
  | _=>none
 | .agg cs=>match T.k t with
  | some (.array m e)=>match T.sz e with
   | some n=>match partC T e cs (i.toNat * n) with | some v=>some (v,[.b (decide (0≤i∧i < m))]) | none=>none
   | none=>none
  | _=>none
 | _=>none
theorem indexC_ok {P:Program} {t:TypeId} {x v:AV} {i:Int} {c:List Cnd} (h:indexC (Tab.of P) t x i = some (v,c)) (hc:AllT c):evIndex P t x i = some v:=by
 unfold indexC at h
 unfold evIndex
 split at h
 ·rename_i s
  split at h
  ·rename_i hk
   have hk':kOf P t = _:=hk
   simp only [Option.some.injEq,Prod.mk.injEq] at h; obtain ⟨rfl,rfl⟩:=h; simp only [AllT,and_true,decide_eq_true_eq,ne_eq] at hc
   simp only [hk',if_pos hc.1]
   have hlt:i.toNat < s.size:=by omega
   simp [byteAt,hlt]
  ·simp at h
 ·rename_i cs
  split at h
  ·rename_i m e hk
   have hk':kOf P t = _:=hk
   split at h
   ·rename_i n hn
    have hn':szOf P e = _:=hn
    split at h
    ·rename_i u hu
     simp only [Option.some.injEq,Prod.mk.injEq] at h; obtain ⟨rfl,rfl⟩:=h; simp only [AllT,and_true,decide_eq_true_eq,ne_eq] at hc
     simp only [hk',hn']; rw [if_pos hc]; exact hu
    ·simp at h
   ·simp at h
  ·simp at h
 ·simp at h
def lenC (T:Tab) (t:TypeId) (x:AV):Option AV :=
 match T.k t,x with
 | some .string,.str s=>some (.int .i64 s.size)
 | some (.slice _),.slice _ _ n _=>some (.int .i64 n)
 | some (.slice _),.list _ xs=>some (.int .i64 xs.length)
 | some (.slice _),.lst _ n _=>some (.int .i64 n)
 | some (.slice _),.nilSlice=>some (.int .i64 0)
 | some (.array n _),_=>some (.int .i64 n)
 | _,_=>none
def sliceC (T:Tab) (t:TypeId) (x:AV) (lo hi:Int):Option (AV × List Cnd) :=
 match T.k t,x with
 | some .string,.str s=>some (.str (s.extract lo.toNat hi.toNat),[.b (decide (0≤lo∧lo≤hi∧hi≤s.size))])
 | some (.slice e),.slice l off len sz=>if T.sz e = some sz then some (.slice l (off + lo.toNat * sz) (hi.toNat - lo.toNat) sz,[.b (decide (0≤lo∧lo≤hi∧hi≤len))]) else none
 | some (.slice e),.list sz xs=>if T.sz e = some sz then some (.list sz ((xs.take hi.toNat).drop lo.toNat),[.b (decide (0≤lo∧lo≤hi∧hi≤xs.length))]) else none
 | some (.slice e),.lst sz m f=>if T.sz e = some sz then some (.lst sz (hi.toNat - lo.toNat) (fun k=>f (lo.toNat + k)),[.b (decide (0≤lo∧lo≤hi∧hi≤m))]) else none
 | _,_=>none
theorem sliceC_ok {P:Program} {t:TypeId} {x v:AV} {lo hi:Int} {c:List Cnd} (h:sliceC (Tab.of P) t x lo hi = some (v,c)) (hc:AllT c):evSlice P t x lo hi = some v:=by
 unfold sliceC at h
 split at h
 ·rename_i s hk
  have hk':kOf P t = _:=hk
  simp only [Option.some.injEq,Prod.mk.injEq] at h; obtain ⟨rfl,rfl⟩:=h; simp only [AllT,and_true,decide_eq_true_eq,ne_eq] at hc
  simp only [evSlice,evSlice0,hk']; rw [if_pos hc]
 ·rename_i e l off len sz hk
  have hk':kOf P t = _:=hk
  split at h
  ·rename_i hs
   simp only [Option.some.injEq,Prod.mk.injEq] at h; obtain ⟨rfl,rfl⟩:=h; simp only [AllT,and_true,decide_eq_true_eq,ne_eq] at hc
   simp only [evSlice,evSlice0,hk']; rw [if_pos ⟨hs,hc⟩]
  ·simp at h
 ·rename_i e sz xs hk
  have hk':kOf P t = _:=hk
  split at h
  ·rename_i hs
   simp only [Option.some.injEq,Prod.mk.injEq] at h; obtain ⟨rfl,rfl⟩:=h; simp only [AllT,and_true,decide_eq_true_eq,ne_eq] at hc
   simp only [evSlice,evSlice0,hk']; rw [if_pos ⟨hs,hc⟩]
  ·simp at h
 ·rename_i e sz m f hk
  have hk':kOf P t = _:=hk
  split at h
  ·rename_i hs
   simp only [Option.some.injEq,Prod.mk.injEq] at h; obtain ⟨rfl,rfl⟩:=h; simp only [AllT,and_true,decide_eq_true_eq,ne_eq] at hc
   simp only [evSlice,hk']; rw [if_pos ⟨hs,hc⟩]
  ·simp at h
 ·simp at h
def appendC (T:Tab) (sym:Bool) (t t2:TypeId) (hm:Nat→Option Blk) (id:Nat) (s x:AV):Option (Out × List Cnd) :=
 match T.k t,T.k t2 with
 | some (.slice e),some k2=>match T.ti e with
  | some ti=>match elemsX k2 hm ti.size x with
   | some (ns,m) =>
    match s with
    | .nilSlice=>if 0 < ti.bytes∧T.ex e = false then some (⟨.slice id 0 m ti.size,[(id,some (.row e ns))],1⟩,[.b (decide (m * ti.bytes≤140737488355328))]) else none
    | .slice l off len sz=>match hm l with
     | some (.row ty cs) =>
      if sz = ti.size∧0 < ti.size∧0 < ti.bytes∧ty = e∧T.ex e = false then
       match sym with
       | true=>if off = 0 then some (⟨.slice id 0 (len + m) sz,[(l,none),(id,some (.row e (cs ++ ns)))],1⟩,[.b (AV.ones ns),.b (decide (len * sz = cs.length∧(len + m) * ti.bytes≤140737488355328))]) else none
       | false=>some (⟨.slice id 0 (len + m) sz,[(l,none),(id,some (.row e ((cs.drop off).take (len * sz) ++ ns)))],1⟩,[.b (AV.ones ns),.b (decide (off + len * sz≤cs.length∧(len + m) * ti.bytes≤140737488355328))])
      else none
     | _=>none
    | _=>none
   | none=>none
  | none=>none
 | _,_=>none
theorem appendC_ok {P:Program} {sym:Bool} {t t2:TypeId} {hm:Nat→Option Blk} {id:Nat} {s x:AV} {out:Out} {c:List Cnd} (h:appendC (Tab.of P) sym t t2 hm id s x = some (out,c)) (hc:AllT c):evAppend P t t2 hm id s x = some out:=by
 unfold appendC at h
 split at h
 ·rename_i e e2 hk hk2
  have hk':kOf P t = _:=hk
  have hk2':kOf P t2 = _:=hk2
  split at h
  ·rename_i ti hti
   have hti':tiOf P e = _:=hti
   split at h
   ·rename_i ns m hel
    simp only [evAppend,hk',hk2',hti',hel]
    split at h
    ·split at h
     ·rename_i hb
      simp only [Option.some.injEq,Prod.mk.injEq] at h; obtain ⟨rfl,rfl⟩:=h; simp only [AllT,and_true,decide_eq_true_eq,ne_eq] at hc
      simp only
      rw [if_pos ⟨⟨hb.1,hc⟩,hb.2⟩]
     ·simp at h
    ·rename_i l off len sz
     split at h
     ·rename_i ty cs hl
      simp only [hl]
      split at h
      ·rename_i hb
       split at h
       ·split at h
        ·rename_i ho
         subst ho
         simp only [Option.some.injEq,Prod.mk.injEq] at h
         obtain ⟨rfl,rfl⟩:=h
         simp only [AllT,and_true,decide_eq_true_eq] at hc
         obtain ⟨h1,h2,h3⟩:=hc
         rw [if_pos ⟨hb,h1,by omega,h3⟩]
         simp [h2]
        ·simp at h
       ·simp only [Option.some.injEq,Prod.mk.injEq] at h
        obtain ⟨rfl,rfl⟩:=h
        simp only [AllT,and_true,decide_eq_true_eq] at hc
        obtain ⟨h1,h2⟩:=hc
        rw [if_pos ⟨hb,h1,h2⟩]
      ·simp at h
     ·simp at h
    ·simp at h
   ·simp at h
  ·simp at h
 ·simp at h
def placesC (T:Tab):List (Nat × TypeId)→Option (List (Nat × Nat))
 | []=>some []
 | (o,t) :: r=>match T.sz t,placesC T r with | some n,some l=>some ((o,n) :: l) | _,_=>none
theorem placesC_eq (P:Program):∀ l,placesC (Tab.of P) l = placesOf P l
 | []=>rfl
 | (o,t) :: r=>by simp only [placesC,placesOf,placesC_eq P r]; rfl
def buildC (T:Tab) (t:TypeId) (ps:List (Nat × AV)):Option AV :=
 match T.ti t with
 | some ti=>match ti.k with
  | .struct fs=>match placesC T fs with
   | some pl=>match fillAV (fun i=>pl[i]?) ti.zero ps with | some cs=>some (.agg cs) | none=>none
   | none=>none
  | .array _ e=>match T.sz e with
   | some n=>match fillAV (fun i=>some (i * n,n)) ti.zero ps with | some cs=>some (.agg cs) | none=>none
   | none=>none
  | _=>none
 | none=>none
theorem buildC_eq (P:Program) (t:TypeId) (ps:List (Nat × AV)):buildC (Tab.of P) t ps = evBuild P t ps:=by
 unfold buildC evBuild
 simp only [placesC_eq]
 rfl
def buildSliceC (T:Tab) (t:TypeId) (len:Nat) (ps:List (Nat × AV)) (id:Nat):Option Out :=
 match T.k t with
 | some (.slice e)=>match T.ti e with
  | some ti=>if len * ti.size≤16777216∧0 < ti.size∧0 < len then
    match fillAV (fun i=>some (i * ti.size,ti.size)) (repZ len ti.zero) ps with
    | some cs=>some ⟨.slice id 0 len ti.size,[(id,some (.row e cs))],1⟩
    | none=>none
   else if len = 0∧ps.isEmpty = true∧0 < ti.size then some ⟨.slice id 0 0 ti.size,[(id,some (.row e []))],1⟩ else none
  | none=>none
 | _=>none
def keysB (k:AV) (es:List (AV × AV)):Bool:=es.all fun e=>(keyEq k e.1).isSome
def lookF (k z:AV):List (AV × AV)→AV
 | []=>z
 | (a,v) :: r=>match keyEq k a with | some true=>v | _=>lookF k z r
def lookB (k:AV):List (AV × AV)→Bool
 | []=>false
 | (a,_) :: r=>match keyEq k a with | some true=>true | _=>lookB k r
def setF (k v:AV):List (AV × AV)→List (AV × AV)
 | []=>[(k,v)]
 | (a,u) :: r=>match keyEq k a with | some true=>(k,v) :: r | _=>(a,u) :: setF k v r
theorem mpFind_look {k z:AV}:∀ {es:List (AV × AV)},keysB k es = true→(lookB k es = true∧mpFind k es = some (some (lookF k z es)))∨(lookB k es = false∧mpFind k es = some none∧lookF k z es = z)
 | [],_=>.inr ⟨rfl,rfl,rfl⟩
 | (a,v) :: r,h=>by
  simp only [keysB,List.all_cons,Bool.and_eq_true] at h
  simp only [lookB,lookF,mpFind]
  cases e:keyEq k a with
  | none=>rw [e] at h; simp at h
  | some b =>
   cases b with
   | true=>exact .inl ⟨rfl,rfl⟩
   | false=>exact mpFind_look (es:=r) h.2
theorem mpSet_set {k v:AV}:∀ {es:List (AV × AV)},keysB k es = true→mpSet k v es = some (setF k v es)
 | [],_=>rfl
 | (a,u) :: r,h=>by
  simp only [keysB,List.all_cons,Bool.and_eq_true] at h
  simp only [setF,mpSet]
  cases e:keyEq k a with
  | none=>rw [e] at h; simp at h
  | some b =>
   cases b with
   | true=>rfl
   | false=>simp only [mpSet_set (es:=r) h.2,Option.map_some]
def lookupC (T:Tab) (t:TypeId) (hm:Nat→Option Blk) (x k:AV) (ok:Bool):Option (AV × List Cnd) :=
 match T.k t with
 | some (.map kt et)=>match T.k kt,T.ti et with
  | some kk,some ti=>if keyKind kk k = true then
    match entAV hm x,(if ti.k.isAgg then some (AV.agg ti.zero) else ti.zero[0]?) with
    | some es,some z=>some (if ok then .tuple [lookF k z es,.bool (lookB k es)] else lookF k z es,[.b (keysB k es)])
    | _,_=>none
   else none
  | _,_=>none
 | _=>none
theorem lookupC_ok {P:Program} {t:TypeId} {hm:Nat→Option Blk} {x k:AV} {ok:Bool} {v:AV} {c:List Cnd} (h:lookupC (Tab.of P) t hm x k ok = some (v,c)) (hc:AllT c):evLookup P t hm x k ok = some v:=by
 unfold lookupC at h
 split at h
 ·rename_i kt et hk
  have hk':kOf P t = _:=hk
  split at h
  ·rename_i kk ti h1 h2
   have h1':kOf P kt = _:=h1
   have h2':tiOf P et = _:=h2
   split at h
   ·rename_i hkk
    split at h
    ·rename_i es z he hz
     simp only [Option.some.injEq,Prod.mk.injEq] at h
     obtain ⟨rfl,rfl⟩:=h
     simp only [AllT,and_true] at hc
     simp only [evLookup,hk',h1',h2',he]
     rw [if_pos hkk]
     rcases mpFind_look (z:=z) hc with ⟨e1,e2⟩ | ⟨e1,e2,e3⟩
     ·rw [e2,e1]
     ·rw [e2,e1,e3]
      simp only [hz]
    ·simp at h
   ·simp at h
  ·simp at h
 ·simp at h
def mapSetC (T:Tab) (t:TypeId) (hm:Nat→Option Blk) (x k v:AV):Option (Out × List Cnd) :=
 match T.k t,x with
 | some (.map kt _),.map l=>match T.k kt,hm l with
  | some kk,some (.mp es)=>if keyKind kk k = true then some (⟨.any,[(l,some (.mp (setF k v es)))],0⟩,[.b (keysB k es)]) else none
  | _,_=>none
 | _,_=>none
theorem mapSetC_ok {P:Program} {t:TypeId} {hm:Nat→Option Blk} {x k v:AV} {out:Out} {c:List Cnd} (h:mapSetC (Tab.of P) t hm x k v = some (out,c)) (hc:AllT c):evMapSet P t hm x k v = some out:=by
 unfold mapSetC at h
 split at h
 ·rename_i kt et l hk
  have hk':kOf P t = _:=hk
  split at h
  ·rename_i kk es h1 h2
   have h1':kOf P kt = _:=h1
   split at h
   ·rename_i hkk
    simp only [Option.some.injEq,Prod.mk.injEq] at h
    obtain ⟨rfl,rfl⟩:=h
    simp only [AllT,and_true] at hc
    simp only [evMapSet,hk',h1',h2]
    rw [if_pos hkk,mpSet_set hc]
   ·simp at h
  ·simp at h
 ·simp at h
def fieldsC (T:Tab):List (Nat × TypeId)→List AV→List AV→Option Bool
 | [],_,_=>some true
 | (o,ft) :: fs,a,b=>match T.k ft,partC T ft a o,partC T ft b o with
  | some k,some u,some v=>match atomEq k u v,fieldsC T fs a b with
   | some r,some q=>if kEq u v then some (r && q) else none
   | _,_=>none
  | _,_,_=>none
theorem fieldsC_eq (P:Program):∀ fs a b,fieldsC (Tab.of P) fs a b = evFields P fs a b
 | [],_,_=>rfl
 | (o,ft) :: fs,a,b=>by simp only [fieldsC,evFields,fieldsC_eq P fs a b]; rfl
def structC (T:Tab) (t:TypeId) (a b:List AV):Option Bool :=
 if T.pl t then (match T.k t with | some (.struct fs)=>fieldsC T fs a b | _=>none) else none
theorem structC_eq (P:Program) (t:TypeId) (a b:List AV):structC (Tab.of P) t a b = evStruct P t a b:=by
 unfold structC evStruct
 simp only [fieldsC_eq]
 rfl
def convC (T:Tab) (hm:Nat→Option Blk) (s d:TypeId):AV→Option (AV × List Cnd)
 | .int _ n=>match T.k s,T.k d with | some _,some (.int k)=>some (.int k (wrC k n).1,(wrC k n).2) | _,_=>none
 | .str b=>match T.k s,T.k d with | some _,some .string=>some (.str b,[]) | _,_=>none
 | .ptr l 0=>match T.k s,T.k d,hm l with
  | some (.ptr t),some .raw,some (.row ty cs)=>match T.sz t with | some n=>if n ≠ 0∧0 < cs.length then some (.ptr l 0,[]) else none | none=>none
  | some .raw,some (.ptr u),some (.row ty cs)=>match T.sz u with | some _=>if (T.ex ty && T.li ty cs.length u) = true then some (.ptr l 0,[]) else none | none=>none
  | _,_,_=>none
 | v=>match T.k s,T.k d with
  | some (.slice e),some .string=>match T.k e,T.sz e,elems hm 1 v with
   | some (.int .u8),some 1,some (ns,_)=>(bytesAV ns).map fun l=>(.str ⟨l.toArray⟩,[])
   | _,_,_=>none
  | _,_=>none
theorem convC_ok {P:Program} {hm:Nat→Option Blk} {s d:TypeId} {v u:AV} {c:List Cnd} (h:convC (Tab.of P) hm s d v = some (u,c)) (hc:AllT c):convAV P hm s d v = some u:=by
 unfold convC at h
 unfold convAV
 split at h
 ·rename_i k n
  split at h
  ·rename_i x k' h1 h2
   have h1':kOf P s = _:=h1
   have h2':kOf P d = _:=h2
   simp only [Option.some.injEq,Prod.mk.injEq] at h; obtain ⟨rfl,rfl⟩:=h
   simp only [h1',h2',wrC_ok hc]
  ·simp at h
 ·rename_i b
  split at h
  ·rename_i x h1 h2
   have h1':kOf P s = _:=h1
   have h2':kOf P d = _:=h2
   simp at h; obtain ⟨rfl,_⟩:=h
   simp only [h1',h2']
  ·simp at h
 ·rename_i l
  simp only
  split at h
  ·rename_i t ty cs h1 h2 h3
   have h1':kOf P s = _:=h1
   have h2':kOf P d = _:=h2
   simp only [h1',h2',h3]
   split at h
   ·rename_i n hn
    have hn':szOf P t = _:=hn
    simp only [hn']
    split at h
    ·rename_i hb; simp at h; obtain ⟨rfl,_⟩:=h; rw [if_pos hb]
    ·simp at h
   ·simp at h
  ·rename_i u' ty cs h1 h2 h3
   have h1':kOf P s = _:=h1
   have h2':kOf P d = _:=h2
   simp only [h1',h2',h3]
   split at h
   ·rename_i n hn
    have hn':szOf P u' = _:=hn
    simp only [hn']
    split at h
    ·rename_i hb
     simp at h; obtain ⟨rfl,_⟩:=h
     have hb':(exB P ty && liesAt P P.depth ty (cs.length / P.cellsOf ty) 0 u' 1) = true:=hb
     rw [if_pos hb']
    ·simp at h
   ·simp at h
  ·simp at h
 ·rename_i hn1 hn2 hn3
  split
  ·exact absurd rfl (hn1 _ _)
  ·exact absurd rfl (hn2 _)
  ·exact absurd rfl (hn3 _)
  ·split at h
   ·rename_i e h1 h2
    have h1':kOf P s = _:=h1
    have h2':kOf P d = _:=h2
    simp only [h1',h2']
    split at h
    ·rename_i ns m h3 h4 h5
     have h3':kOf P e = _:=h3
     have h4':szOf P e = _:=h4
     simp only [h3',h4',h5]
     simp only [Option.map_eq_some_iff,Prod.mk.injEq] at h
     obtain ⟨l,hl,rfl,_⟩:=h
     simp [hl]
    ·simp at h
   ·simp at h
def builtin2C (T:Tab) (b:Builtin) (ts:List TypeId) (hm:Nat→Option Blk) (id:Nat) (args:List AV):Option Out :=
 match b,ts,args with
 | .unsafeSliceData,[_],[.slice l off len sz]=>if 0 < len then some ⟨.ptr l off,[],0⟩ else none
 | .unsafeString,[pt,_],[.ptr l off,.int .i64 n]=>match T.k pt,hm l with
  | some (.ptr e),some (.row ty cs)=>if ty = e∧T.co e = 1∧0 < n∧off + n.toNat≤cs.length∧n≤9223372036854775807 then
    (match bytesAV ((cs.drop off).take n.toNat) with | some l'=>some ⟨.str ⟨l'.toArray⟩,[(l,none)],0⟩ | none=>none) else none
  | _,_=>none
 | .clear,[t],[.slice l off len sz]=>match T.k t,hm l with
  | some (.slice e),some (.row ty cs)=>match T.ti e with
   | some ti=>if ti.size = sz∧off + len * sz≤cs.length∧AV.ones ti.zero = true then some ⟨.tuple [],[(l,some (.row ty (setAll cs off (repZ len ti.zero))))],0⟩ else none
   | none=>none
  | _,_=>none
 | .min,[_,_,_],[.int k a,.int k' b,.int k'' c]=>some ⟨.int k (if c < (if b < a then b else a) then c else (if b < a then b else a)),[],0⟩
 | .max,[_,_,_],[.int k a,.int k' b,.int k'' c]=>some ⟨.int k (if c > (if b > a then b else a) then c else (if b > a then b else a)),[],0⟩
 | _,_,_=>none
def cellStr (cs:List AV):ByteArray:=⟨((bytesAV cs).getD []).toArray⟩
def builtinC (T:Tab) (sym:Bool) (b:Builtin) (ts:List TypeId) (hm:Nat→Option Blk) (id:Nat) (args:List AV):Option (Out × List Cnd) :=
 match b,ts,args with
 | .len,[t],[x]=>match x with
  | .map l=>match T.k t,hm l with | some (.map _ _),some (.mp es)=>some (⟨.int .i64 es.length,[],0⟩,[]) | _,_=>none
  | x=>match lenC T t x with | some v=>some (⟨v,[],0⟩,[]) | none=>none
 | .append,[t,t2],[s,x]=>appendC T sym t t2 hm id s x
 | .min,[_,_],[.int k a,.int k' b]=>some (⟨.int k (if b < a then b else a),[],0⟩,[])
 | .max,[_,_],[.int k a,.int k' b]=>some (⟨.int k (if b > a then b else a),[],0⟩,[])
 | .unsafeSliceData,[_],[.slice l off len sz]=>some (⟨.ptr l off,[],0⟩,[.b (decide (0 < len))])
 | .unsafeString,[pt,_],[.ptr l off,.int .i64 n]=>match T.k pt,hm l with
  | some (.ptr e),some (.row ty cs)=>if ty = e∧T.co e = 1∧off = 0 then some (⟨.str (cellStr cs),[(l,none)],0⟩,[.b (decide (0 < n∧n.toNat = cs.length∧n≤9223372036854775807)),.b (bytesAV cs).isSome]) else none
  | _,_=>none
 | .clear,[t],[.slice l off len sz]=>match T.k t,hm l with
  | some (.slice e),some (.row ty cs)=>match T.ti e with
   | some ti=>if ti.size = sz∧AV.ones ti.zero = true then some (⟨.tuple [],[(l,some (.row ty (setAll cs off (repZ len ti.zero))))],0⟩,[.b (decide (off + len * sz≤cs.length))]) else none
   | none=>none
  | _,_=>none
 | b,ts,args=>match builtin2C T b ts hm id args with | some out=>some (out,[]) | none=>none
def vC:Option AV→Option (Out × List Cnd)
 | some v=>some (⟨v,[],0⟩,[])
 | none=>none
def vbC:Option (AV × List Cnd)→Option (Out × List Cnd)
 | some (v,b)=>some (⟨v,[],0⟩,b)
 | none=>none
def oC:Option Out→Option (Out × List Cnd)
 | some o=>some (o,[])
 | none=>none
theorem vC_ok {v:Option AV} {out:Out} {c:List Cnd} (h:vC v = some (out,c)):pureO v = some out:=by
 cases v <;> simp [vC,pureO] at h ⊢; exact h.1
theorem oC_ok {v:Option Out} {out:Out} {c:List Cnd} (h:oC v = some (out,c)):v = some out:=by
 cases v <;> simp [oC] at h ⊢; exact h.1
theorem vbC_ok {v:Option (AV × List Cnd)} {u:Option AV} {out:Out} {c:List Cnd} (h:vbC v = some (out,c)) (hc:AllT c) (hu:∀ x,v = some (x,c)→u = some x):pureO u = some out:=by
 cases v with
 | none=>simp [vbC] at h
 | some x =>
  obtain ⟨v,b⟩:=x
  simp [vbC] at h
  obtain ⟨rfl,rfl⟩:=h
  rw [hu v rfl]; rfl
theorem builtinC_ok {P:Program} {sym:Bool} {b:Builtin} {ts:List TypeId} {hm:Nat→Option Blk} {id:Nat} {args:List AV} {out:Out} {c:List Cnd} (h:builtinC (Tab.of P) sym b ts hm id args = some (out,c)) (hc:AllT c) :
  (match evBuiltin P b ts hm id args with | some out=>some out | none=>evBuiltin2 P b ts hm id args) = some out:=by
 unfold builtinC at h
 split at h
 ·rename_i t x
  split at h
  ·rename_i l
   split at h
   ·rename_i a b' es h1 h2
    have h1':kOf P t = _:=h1
    simp at h; obtain ⟨rfl,_⟩:=h
    simp only [evBuiltin,h1',h2]
   ·simp at h
  ·rename_i hn
   split at h
   ·rename_i v hv
    have hv':evLen P t x = some v:=hv
    simp at h; obtain ⟨rfl,_⟩:=h
    have:evBuiltin P .len [t] hm id [x] = pureO (evLen P t x):=by
     cases x <;> first | rfl | exact absurd rfl (hn _)
    rw [this,hv']; rfl
   ·simp at h
 ·rename_i t t2 s x
  have:=appendC_ok h hc
  simp only [evBuiltin,this]
 ·simp at h; obtain ⟨rfl,_⟩:=h; simp only [evBuiltin]
 ·simp at h; obtain ⟨rfl,_⟩:=h; simp only [evBuiltin]
 ·simp only [Option.some.injEq,Prod.mk.injEq] at h; obtain ⟨rfl,rfl⟩:=h
  simp only [AllT,and_true,decide_eq_true_eq] at hc
  simp only [evBuiltin,evBuiltin2]
  rw [if_pos hc]
 ·rename_i pt it l off n
  split at h
  ·rename_i e ty cs h1 h2
   have h1':kOf P pt = _:=h1
   split at h
   ·rename_i h3
    obtain ⟨h3,h4,h5⟩:=h3
    subst h5
    simp only [Option.some.injEq,Prod.mk.injEq] at h; obtain ⟨rfl,rfl⟩:=h
    simp only [AllT,and_true,decide_eq_true_eq] at hc
    obtain ⟨⟨c1,c2,c3⟩,c4⟩:=hc
    simp only [evBuiltin,evBuiltin2,h1',h2]
    have h4':P.cellsOf e = 1:=h4
    rw [if_pos ⟨h3,h4',c1,by omega,c3⟩]
    have e1:(cs.drop 0).take n.toNat = cs:=by rw [List.drop_zero,c2,List.take_length]
    rw [e1]
    cases hb:bytesAV cs with
    | none=>rw [hb] at c4; simp at c4
    | some l'=>simp [cellStr,hb]
   ·simp at h
  ·simp at h
 ·rename_i t l off len sz
  split at h
  ·rename_i e ty cs h1 h2
   have h1':kOf P t = _:=h1
   split at h
   ·rename_i ti hti
    have hti':tiOf P e = _:=hti
    split at h
    ·rename_i h3
     simp only [Option.some.injEq,Prod.mk.injEq] at h; obtain ⟨rfl,rfl⟩:=h
     simp only [AllT,and_true,decide_eq_true_eq] at hc
     simp only [evBuiltin,evBuiltin2,h1',h2,hti']
     rw [if_pos ⟨h3.1,hc,h3.2⟩]
    ·simp at h
   ·simp at h
  ·simp at h
 ·rename_i hn1 hn2 hn3 hn4 hn5 hn6 hn7
  split at h
  ·rename_i o ho
   have ho':evBuiltin2 P b ts hm id args = some o:=ho
   simp at h; obtain ⟨rfl,_⟩:=h
   have:evBuiltin P b ts hm id args = none:=by
    unfold evBuiltin
    split
    ·exact absurd rfl (hn1 _ _ rfl rfl)
    ·exact absurd rfl (hn2 _ _ _ _ rfl rfl)
    ·exact absurd rfl (hn3 _ _ _ _ _ _ rfl rfl)
    ·exact absurd rfl (hn4 _ _ _ _ _ _ rfl rfl)
    ·rfl
   rw [this]; exact ho'
  ·simp at h
def loadC (sym:Bool) (ti:TI) (cs:List AV):Option (Out × List Cnd) :=
 match sym with
 | true=>vC (loadAV ti cs)
 | false=>match ti.k.isAgg with
  | true=>some (⟨.agg (cs.take ti.size),[],0⟩,[.b (decide (ti.size≤cs.length))])
  | false=>some (⟨cs.getD 0 .any,[],0⟩,[.b (decide (0 < cs.length))])
theorem loadC_ok {sym:Bool} {ti:TI} {cs:List AV} {out:Out} {c:List Cnd} (h:loadC sym ti cs = some (out,c)) (hc:AllT c):pureO (loadAV ti cs) = some out:=by
 unfold loadC at h
 split at h
 ·exact vC_ok h
 ·split at h
  ·rename_i hk
   simp only [Option.some.injEq,Prod.mk.injEq] at h
   obtain ⟨rfl,rfl⟩:=h
   simp only [AllT,and_true,decide_eq_true_eq] at hc
   simp only [loadAV,hk,if_true,if_pos hc]; rfl
  ·rename_i hk
   simp only [Option.some.injEq,Prod.mk.injEq] at h
   obtain ⟨rfl,rfl⟩:=h
   simp only [AllT,and_true,decide_eq_true_eq] at hc
   simp only [loadAV,hk,Bool.false_eq_true,if_false]
   rw [List.getElem?_eq_getElem hc]
   simp [pureO,List.getD,List.getElem?_eq_getElem hc]
def evC (T:Tab) (sym:Bool) (o:Op) (ρ:Operand→Option AV) (hm:Nat→Option Blk) (id:Nat):Option (Out × List Cnd) :=
 match o with
 | .move x=>vC (ρ x)
 | .assign x=>vC (ρ x)
 | .pick c a b=>match ρ c with
  | some (.bool true)=>vC (ρ a)
  | some (.bool false)=>vC (ρ b)
  | _=>none
 | .alloc t=>match T.ti t with | some ti=>some (⟨.ptr id 0,[(id,some (.row t ti.zero))],1⟩,[]) | none=>none
 | .box t x=>match ρ x with | some v=>if v.known = true then some (⟨.ptr id 0,[(id,some (.row t v.cells))],1⟩,[]) else none | none=>none
 | .build t ps=>match opds ρ ps.toList with | some l=>vC (buildC T t l) | none=>none
 | .buildSlice t n ps=>match opds ρ ps.toList with | some l=>oC (buildSliceC T t n l id) | none=>none
 | .load t a=>match ρ a with
  | some p=>match deref hm p,T.ti t with
   | some cs,some ti=>loadC sym ti cs
   | _,_=>none
  | none=>none
 | .store t a x=>match ρ a,ρ x with
  | some (.ptr l off),some v=>match hm l,T.ti t with
   | some (.row ty cs),some ti=>if v.known = true∧AV.ones v.cells = true∧v.cells.length = ti.size then some (⟨.any,[(l,some (.row ty (setAll cs off v.cells)))],0⟩,[.b (decide (off + v.cells.length≤cs.length))]) else none
   | _,_=>none
  | _,_=>none
 | .nilCheck x=>match ρ x with
  | some (.ptr l off)=>some (⟨.ptr l off,[],0⟩,[])
  | some (.ref cs off)=>some (⟨.ref cs off,[],0⟩,[])
  | some (.func (.func f) a b)=>some (⟨.func (.func f) a b,[],0⟩,[])
  | _=>none
 | .binOp op t x y _=>match ρ x,ρ y with
  | some .nilIface,some .nilIface=>if isConstO x || isConstO y then (match T.k t,op with | some (.iface _),.eql=>some (⟨.bool true,[],0⟩,[]) | some (.iface _),.neq=>some (⟨.bool false,[],0⟩,[]) | _,_=>none) else none
  | some (.agg a),some (.agg b)=>match structC T t a b,op with | some r,.eql=>some (⟨.bool r,[],0⟩,[]) | some r,.neq=>some (⟨.bool (!r),[],0⟩,[]) | _,_=>none
  | some (.ptr l o),some (.ptr l' o')=>if l = l'∧o = o' then (match T.k t,op with | some (.ptr e),.eql=>oC ((T.sz e).map fun _=>⟨.bool true,[],0⟩) | some (.ptr e),.neq=>oC ((T.sz e).map fun _=>⟨.bool false,[],0⟩) | _,_=>none) else none
  | some a,some b=>vbC (binC T op t a b)
  | _,_=>none
 | .unOp op t x=>match op,ρ x with
  | .not,some (.bool b)=>some (⟨.bool (!b),[],0⟩,[])
  | .neg,some (.int k n)=>some (⟨.int k (wrC k (0 - n)).1,[],0⟩,(wrC k (0 - n)).2)
  | _,_=>none
 | .convert s d x=>match ρ x with | some v=>vbC (convC T hm s d v) | none=>none
 | .makeInterface t x=>match T.k t,ρ x with
  | some (.iface _),_=>none
  | some _,some v=>some (⟨.iface t v,[],0⟩,[])
  | _,_=>none
 | .makeFunc fn fs cs=>match opsAV ρ fs.toList,opsAV ρ cs.toList with | some a,some b=>some (⟨.func fn a b,[],0⟩,[]) | _,_=>none
 | .makeMap t none=>some (⟨.map id,[(id,some (.mp []))],1⟩,[])
 | .slice t x lo hi none=>match ρ x,optInt ρ lo,optInt ρ hi with
  | some v,some l,some h=>match lenAV v with | some n=>vbC (sliceC T t v (loI l) (h.getD n)) | none=>none
  | _,_,_=>none
 | .fieldAddr t x f=>match ρ x,fieldC T t f with
  | some v,some (o,ft)=>match T.sz ft with | some n=>if n ≠ 0 then vC (shift o v) else none | none=>none
  | _,_=>none
 | .field t x f=>match ρ x,fieldC T t f with
  | some (.agg cs),some (o,ft)=>vC (partC T ft cs o)
  | _,_=>none
 | .indexAddr t x i=>match ρ x,ρ i with | some v,some (.int _ k)=>vbC (ixAddrC T t v k) | _,_=>none
 | .index t x i=>match ρ x,ρ i with | some v,some (.int _ k)=>vbC (indexC T t v k) | _,_=>none
 | .lookup t x k ok=>match ρ x,ρ k with | some v,some u=>(match lookupC T t hm v u ok with | some (w,c)=>some (⟨w,[],0⟩,c) | none=>none) | _,_=>none
 | .mapUpdate t m k v=>match ρ m,ρ k,ρ v with | some a,some b,some c=>mapSetC T t hm a b c | _,_,_=>none
 | .insert t m k v=>match ρ m,ρ k,ρ v with | some a,some b,some c=>mapSetC T t hm a b c | _,_,_=>none
 | .extract x i=>match ρ x with | some (.tuple vs)=>vC vs[i]? | _=>none
 | .typeAssert x xt t ok=>match ρ x,T.k t with
  | some (.iface u v),some k=>match k with
   | .iface _=>none
   | _=>if u = t then some (⟨if ok then .tuple [v,.bool true] else v,[],0⟩,[]) else none
  | _,_=>none
 | .call c=>match c.callee with
  | .builtin b=>match opsAV ρ c.args.toList with
   | some args=>builtinC T sym b c.argTypes.toList hm id args
   | none=>none
  | .value (.func f)=>if T.ne f then (match opsAV ρ c.args.toList with | some [v]=>some (⟨v,[],0⟩,[]) | _=>none) else none
  | _=>none
 | _=>none
theorem evC_ok {P:Program} {sym:Bool} {o:Op} {ρ:Operand→Option AV} {hm:Nat→Option Blk} {id:Nat} {out:Out} {c:List Cnd} (h:evC (Tab.of P) sym o ρ hm id = some (out,c)) (hc:AllT c):evOp P o ρ hm id = some out:=by
 have k1:∀ t,(Tab.of P).k t = kOf P t:=fun _=>rfl
 have k2:∀ t,(Tab.of P).sz t = szOf P t:=fun _=>rfl
 have k3:∀ t,(Tab.of P).ti t = tiOf P t:=fun _=>rfl
 have k4:∀ t,(Tab.of P).ne t = noEsc P t:=fun _=>rfl
 have k5:∀ t f,fieldC (Tab.of P) t f = evField P t f:=fun _ _=>rfl
 have k6:∀ t cs o,partC (Tab.of P) t cs o = partAV P t cs o:=fun _ _ _=>rfl
 have k9:∀ t n l id,buildSliceC (Tab.of P) t n l id = evBuildSlice P t n l id:=fun _ _ _ _=>rfl
 cases o with
 | move x=>exact vC_ok h
 | assign x=>exact vC_ok h
 | pick x a b =>
  simp only [evC,evOp] at h ⊢
  cases hx:ρ x with
  | none=>simp [hx] at h
  | some v =>
   cases v with
   | bool y=>cases y <;> simp only [hx] at h ⊢ <;> exact vC_ok h
   | _=>simp [hx] at h
 | alloc t =>
  simp only [evC,evOp,k3] at h ⊢
  cases hx:tiOf P t with
  | none=>simp [hx] at h
  | some ti=>simp [hx] at h ⊢; exact h.1
 | box t x =>
  simp only [evC,evOp] at h ⊢
  cases hx:ρ x with
  | none=>simp [hx] at h
  | some v=>simp [hx] at h ⊢; exact ⟨h.1,h.2.1⟩
 | build t ps =>
  simp only [evC,evOp,buildC_eq] at h ⊢
  cases hx:opds ρ ps.toList with
  | none=>simp [hx] at h
  | some l=>simp only [hx] at h ⊢; exact vC_ok h
 | buildSlice t n ps =>
  simp only [evC,evOp,k9] at h ⊢
  cases hx:opds ρ ps.toList with
  | none=>simp [hx] at h
  | some l=>simp only [hx] at h ⊢; exact oC_ok h
 | load t a =>
  simp only [evC,evOp] at h ⊢
  cases hx:ρ a with
  | none=>simp [hx] at h
  | some p =>
   simp only [hx] at h ⊢
   cases h1:deref hm p with
   | none=>simp [h1] at h
   | some cs =>
    simp only [h1] at h ⊢
    cases h2:(Tab.of P).ti t with
    | none=>simp [h2] at h
    | some ti =>
     have h2':tiOf P t = some ti:=h2
     simp only [h2] at h
     simp only [h2']
     exact loadC_ok h hc
 | store t a x =>
  simp only [evC,evOp,k3] at h ⊢
  cases hx:ρ a with
  | none=>simp [hx] at h
  | some p =>
   cases hy:ρ x with
   | none=>simp [hx,hy] at h
   | some v =>
    cases p with
    | ptr l off =>
     simp only [hx,hy] at h ⊢
     cases h1:hm l with
     | none=>simp [h1] at h
     | some B =>
      cases B with
      | mp es=>simp [h1] at h
      | row ty cs =>
       cases h2:tiOf P t with
       | none=>simp [h1,h2] at h
       | some ti =>
        simp only [h1,h2] at h ⊢
        split at h
        ·rename_i hb
         simp only [Option.some.injEq,Prod.mk.injEq] at h
         obtain ⟨rfl,rfl⟩:=h
         simp only [AllT,and_true,decide_eq_true_eq] at hc
         rw [if_pos ⟨hb.1,hb.2.1,hb.2.2,hc⟩]
        ·simp at h
    | _=>simp [hx] at h
 | nilCheck x =>
  simp only [evC,evOp] at h ⊢
  split at h <;> (first | (simp at h; done) | (rename_i hx; simp at h; simp [hx,h.1]))
 | binOp op t x y yt =>
  simp only [evC,evOp,k1,k2] at h ⊢
  split at h
  ·rename_i hx hy
   simp only [hx,hy]
   split at h
   ·rename_i hcc
    rw [if_pos hcc]
    split at h <;> (first | (simp at h; done) | (rename_i n hk; simp at h; simp only [hk,h.1]))
   ·simp at h
  ·rename_i hx hy
   rw [structC_eq] at h
   simp only [hx,hy]
   split at h <;> (first | (simp at h; done) | (rename_i hs; simp at h; simp only [hs,h.1]))
  ·rename_i hx hy
   simp only [hx,hy]
   split at h
   ·rename_i hcc
    rw [if_pos hcc]
    split at h <;> (first | (simp at h; done) | (rename_i e hk; have:=oC_ok h; simp only [hk]; exact this))
   ·simp at h
  ·rename_i a b hn1 hn2 hn3 hx hy
   simp only [hx,hy]
   have h':=vbC_ok h hc fun v hv=>binC_ok hv hc
   exact h'
  ·simp at h
 | unOp op t x =>
  simp only [evC,evOp] at h ⊢
  split at h
  ·rename_i hx; simp at h; simp [hx,h.1]
  ·rename_i hx
   simp only [Option.some.injEq,Prod.mk.injEq] at h
   obtain ⟨rfl,rfl⟩:=h
   simp only [hx,wrC_ok hc]
  ·simp at h
 | convert s d x =>
  simp only [evC,evOp] at h ⊢
  cases hx:ρ x with
  | none=>simp [hx] at h
  | some v=>simp only [hx] at h ⊢; exact vbC_ok h hc fun v hv=>convC_ok hv hc
 | makeInterface t x =>
  simp only [evC,evOp,k1] at h ⊢
  split at h
  ·simp at h
  ·rename_i hn hk hx
   simp at h
   split
   ·rename_i e; rw [hk] at e; simp at e; exact absurd e (hn _)
   ·rename_i e1 e2; rw [hx] at e2; simp at e2; subst e2; simp [h.1]
   ·rename_i e; exact absurd hx (by simpa [hk] using e _ _ hk)
  ·simp at h
 | makeFunc fn fs cs =>
  simp only [evC,evOp] at h ⊢
  split at h
  ·rename_i h1 h2; simp at h; simp [h1,h2,h.1]
  ·simp at h
 | makeMap t r =>
  cases r with
  | none=>simp [evC,evOp] at h ⊢; exact h.1
  | some r=>simp [evC] at h
 | slice t x lo hi mx =>
  cases mx with
  | some m=>simp [evC] at h
  | none =>
   simp only [evC,evOp] at h ⊢
   split at h
   ·rename_i h1 h2 h3
    simp only [h1,h2,h3]
    split at h
    ·rename_i n hn
     simp only [hn]
     exact vbC_ok h hc fun v hv=>sliceC_ok hv hc
    ·simp at h
   ·simp at h
 | fieldAddr t x f =>
  simp only [evC,evOp,k2,k5] at h ⊢
  split at h
  ·rename_i h1 h2
   simp only [h1,h2]
   split at h
   ·rename_i n hn
    simp only [hn]
    split at h
    ·rename_i hb; rw [if_pos hb]; exact vC_ok h
    ·simp at h
   ·simp at h
  ·simp at h
 | field t x f =>
  simp only [evC,evOp,k5,k6] at h ⊢
  split at h
  ·rename_i h1 h2; simp only [h1,h2]; exact vC_ok h
  ·simp at h
 | indexAddr t x i =>
  simp only [evC,evOp] at h ⊢
  split at h
  ·rename_i h1 h2; simp only [h1,h2]; exact vbC_ok h hc fun v hv=>ixAddrC_ok hv hc
  ·simp at h
 | index t x i =>
  simp only [evC,evOp] at h ⊢
  split at h
  ·rename_i h1 h2; simp only [h1,h2]; exact vbC_ok h hc fun v hv=>indexC_ok hv hc
  ·simp at h
 | lookup t x k ok =>
  simp only [evC,evOp] at h ⊢
  split at h
  ·rename_i h1 h2
   simp only [h1,h2]
   split at h
   ·rename_i w c' hl
    simp only [Option.some.injEq,Prod.mk.injEq] at h
    obtain ⟨rfl,rfl⟩:=h
    rw [lookupC_ok hl hc]; rfl
   ·simp at h
  ·simp at h
 | mapUpdate t m k v =>
  simp only [evC,evOp] at h ⊢
  split at h
  ·rename_i h1 h2 h3; simp only [h1,h2,h3]; exact mapSetC_ok h hc
  ·simp at h
 | insert t m k v =>
  simp only [evC,evOp] at h ⊢
  split at h
  ·rename_i h1 h2 h3; simp only [h1,h2,h3]; exact mapSetC_ok h hc
  ·simp at h
 | extract x i =>
  simp only [evC,evOp] at h ⊢
  split at h
  ·rename_i h1; simp only [h1]; exact vC_ok h
  ·simp at h
 | typeAssert x xt t ok =>
  simp only [evC,evOp,k1] at h ⊢
  split at h
  ·rename_i h1 h2
   simp only [h1,h2]
   split at h
   ·simp at h
   ·rename_i hn
    split at h
    ·rename_i hu
     simp only [Option.some.injEq,Prod.mk.injEq] at h
     subst hu
     split
     ·exact absurd rfl (hn _)
     ·simp [h.1]
    ·simp at h
  ·simp at h
 | call cl =>
  simp only [evC,evOp,k4] at h ⊢
  split at h
  ·rename_i b hb
   simp only [hb]
   split at h
   ·rename_i h1; simp only [h1]; exact builtinC_ok h hc
   ·simp at h
  ·rename_i f hf
   simp only [hf]
   split at h
   ·rename_i hn
    rw [if_pos hn]
    split at h
    ·rename_i h1; simp at h; simp [h1,h.1]
    ·simp at h
   ·simp at h
  ·simp at h
 | _=>simp [evC] at h
end Go.SL
namespace Go.SL
open Go.RowKit
def Le (u v:AV):Prop:=∀ g x,VR g u x→VR g v x
theorem Le.refl (u:AV):Le u u:=fun _ _ h=>h
theorem Le.of_eq {u v:AV} (h:u = v):Le u v:=h ▸ Le.refl u
theorem Le.any (u:AV):Le u .any:=fun _ x _=>.any x
theorem Le.trans {u v w:AV} (h:Le u v) (k:Le v w):Le u w:=fun g x e=>k g x (h g x e)
theorem Le.nil_lst (sz:Nat) (f:Nat→List AV):Le .nilSlice (.lst sz 0 f):=fun g x h=>by
 cases h; exact .lst sz 0 f _ (.list0 sz)
def LeL:List AV→List AV→Prop
 | [],[]=>True
 | u :: us,v :: vs=>Le u v∧LeL us vs
 | _,_=>False
theorem LeL.length:∀ {us vs:List AV},LeL us vs→us.length = vs.length
 | [],[],_=>rfl
 | u :: us,v :: vs,h=>by simp [LeL.length h.2]
 | [],_ :: _,h=>h.elim
 | _ :: _,[],h=>h.elim
theorem LeL.get:∀ {us vs:List AV},LeL us vs→∀ {j:Nat} {v:AV},vs[j]? = some v→∃ u,us[j]? = some u∧Le u v
 | [],[],_,j,v,e=>by simp at e
 | u :: us,v :: vs,h,0,w,e=>by simp at e; subst e; exact ⟨u,rfl,h.1⟩
 | u :: us,v :: vs,h,j + 1,w,e=>by
  obtain ⟨x,a,b⟩:=LeL.get h.2 (j:=j) (v:=w) (by simpa using e)
  exact ⟨x,by simpa using a,b⟩
 | [],_ :: _,h,_,_,_=>h.elim
 | _ :: _,[],h,_,_,_=>h.elim
theorem LeL.refl:∀ (us:List AV),LeL us us
 | []=>trivial
 | u :: us=>⟨Le.refl u,LeL.refl us⟩
theorem LeL.vrs {g:G} {us vs:List AV} {xs:List Value} (h:LeL us vs) (H:VRs g us xs):VRs g vs xs :=
 ⟨h.length ▸ H.1,fun j v x a b=>by obtain ⟨u,e,hu⟩:=h.get a; exact hu g x (H.2 j u x e b)⟩
theorem Le.agg {us vs:List AV} (h:LeL us vs):Le (.agg us) (.agg vs):=fun g x e=>by
 cases e with
 | agg _ xs h1 hx=>exact .agg _ xs (h.length ▸ h1) fun j v x a b=>by obtain ⟨u,e,hu⟩:=h.get a; exact hu g x (hx j u x e b)
theorem Le.tuple {us vs:List AV} (h:LeL us vs):Le (.tuple us) (.tuple vs):=fun g x e=>by
 cases e with
 | tuple _ xs h1 hx=>exact .tuple _ xs (h.length ▸ h1) fun j v x a b=>by obtain ⟨u,e,hu⟩:=h.get a; exact hu g x (hx j u x e b)
def LeB:Blk→Blk→Prop
 | .row ty cs,.row ty' cs'=>ty = ty'∧LeL cs cs'
 | .mp es,.mp es'=>es = es'
 | _,_=>False
theorem LeB.refl (B:Blk):LeB B B:=by cases B; exact ⟨rfl,LeL.refl _⟩; exact rfl
theorem LeB.of_eq {B C:Blk} (h:B = C):LeB B C:=h ▸ LeB.refl B
theorem LeB.row (ty:TypeId) {cs cs':List AV} (h:LeL cs cs'):LeB (.row ty cs) (.row ty cs'):=⟨rfl,h⟩
theorem LeB.ok {P:Program} {g:G} {w:World} {l:Nat} {B C:Blk} (h:LeB B C) (H:BlkOK P g w l B):BlkOK P g w l C:=by
 cases B with
 | row ty cs =>
  cases C with
  | mp es=>exact h.elim
  | row ty' cs' =>
   obtain ⟨rfl,h⟩:=h
   rcases H with ⟨q,arr,hq,hb,h1,h2,h3,h4⟩ | ⟨hq,h1⟩
   ·refine .inl ⟨q,arr,hq,hb,h1,h.length ▸ h2,h.length ▸ h3,fun j v e=>?_⟩
    obtain ⟨u,e',hu⟩:=h.get e
    obtain ⟨x,hx,hv⟩:=h4 j u e'
    exact ⟨x,hx,hu g x hv⟩
   ·refine .inr ⟨hq,List.eq_nil_of_length_eq_zero ?_⟩
    rw [← h.length,h1]; rfl
 | mp es =>
  cases C with
  | row ty cs=>exact h.elim
  | mp es'=>obtain rfl:es = es':=h; exact H
structure Ren (n0:Nat) (ρ:Nat→Nat) (s s':St):Prop where
 low:n0≤s'.nx
 id:∀ l,l < n0→ρ l = l
 inj:∀ l k B C,s'.hm l = some B→s'.hm k = some C→ρ l = ρ k→l = k
 fr:∀ t v,s'.fr t = some v→ltN s'.nx v = true∧∃ u,s.fr t = some u∧Le u (ren ρ v)
 hm:∀ l B,s'.hm l = some B→l < s'.nx∧ltNB s'.nx B = true∧∃ C,s.hm (ρ l) = some C∧LeB C (renB ρ B)
theorem Mem.reg {P:Program} {E:Env} {F F':Nat→Prop} {hm hm':Nat→Option Blk} {g:G} {w:World} (h:Mem P E F hm g w) {nx':Nat} {ρ:Nat→Nat} (low:E.n0≤nx') (id:∀ l,l < E.n0→ρ l = l) (inj:∀ l k B C,hm' l = some B→hm' k = some C→ρ l = ρ k→l = k)
  (hhm:∀ l B,hm' l = some B→l < nx'∧ltNB nx' B = true∧∃ C,hm (ρ l) = some C∧LeB C (renB ρ B)) (hF:∀ l,F' l→nx'≤l∨(l < E.n0∧F l)) :
  Mem P E F' hm' ⟨fun l=>if l < nx' then g.μ (ρ l) else none,g.I⟩ w:=by
 have hμ:∀ l,l < nx'→(⟨fun l=>if l < nx' then g.μ (ρ l) else none,g.I⟩:G).μ l = g.μ (ρ l):=fun l hl=>if_pos hl
 have hdn:∀ l p,(⟨fun l=>if l < nx' then g.μ (ρ l) else none,g.I⟩:G).μ l = some (some p)→l < nx'∧g.μ (ρ l) = some (some p):=fun l p e=>by
  by_cases hl:l < nx'
  ·rw [hμ l hl] at e; exact ⟨hl,e⟩
  ·simp only [if_neg hl] at e; simp at e
 exact {
  gl:=h.gl
  fresh:=fun l hl=>by
   rcases hF l hl with h0 | ⟨h0,h1⟩
   ·exact if_neg (by omega)
   ·rw [hμ l (by omega),id l h0]; exact h.fresh l h1
  blk:=fun l B hl=>by
   obtain ⟨a,b,C,c,d⟩:=hhm l B hl
   exact BlkOK.unren hμ (fun _ _ _ e=>e) a b (d.ok (h.blk _ _ c))
  sep:=fun l l' B B' p p' a b hne hp hp'=>by
   obtain ⟨a1,a2,C,a3,_⟩:=hhm l B a
   obtain ⟨b1,b2,C',b3,_⟩:=hhm l' B' b
   exact h.sep _ _ _ _ p p' a3 b3 (fun e=>hne (inj _ _ _ _ a b e)) (hdn _ _ hp).2 (hdn _ _ hp').2
  imm:=h.imm
  sepI:=fun l B p a hp=>by
   obtain ⟨a1,a2,C,a3,_⟩:=hhm l B a
   exact h.sepI _ _ p a3 (hdn _ _ hp).2
  le0:=⟨fun l d e=>by
   have hl:l < E.n0:=by
    rcases Nat.lt_or_ge l E.n0 with h0 | h0
    ·exact h0
    ·rw [E.hg l h0] at e; simp at e
   rw [hμ l (by omega),id l hl]; exact h.le0.1 l d e,h.le0.2⟩
  os:=h.os
  tape:=h.tape
  output:=h.output
  size:=h.size
  keep:=h.keep
  own:=fun l B p a hp=>by
   obtain ⟨a1,a2,C,a3,_⟩:=hhm l B a
   exact h.own _ _ p a3 (hdn _ _ hp).2
  immNew:=h.immNew
  exact:=fun l ty cs p a hp he=>by
   obtain ⟨a1,a2,C,a3,a4⟩:=hhm l _ a
   cases C with
   | mp es=>exact a4.elim
   | row ty' cs' =>
    obtain ⟨rfl,a4⟩:=a4
    have:=h.exact _ _ cs' p a3 (hdn _ _ hp).2 he
    rwa [a4.length,renL_length] at this }
theorem Sm.reg {P:Program} {E:Env} {N:Nat} {s s':St} {g:G} {a:Act} {w:World} {ρ:Nat→Nat} (h:Sm P E N s g a w) (r:Ren E.n0 ρ s s'):∃ g',Sm P E N s' g' a w:=by
 refine ⟨⟨fun l=>if l < s'.nx then g.μ (ρ l) else none,g.I⟩,⟨h.sim.size,h.sim.defers,fun t v e=>?_,?_⟩,r.low⟩
 ·obtain ⟨a1,u,a2,a3⟩:=r.fr t v e
  obtain ⟨x,hx,hv⟩:=h.sim.fr t _ a2
  replace hv:=a3 g x hv
  exact ⟨x,hx,VR.unren (g:=g) (h:=⟨fun l=>if l < s'.nx then g.μ (ρ l) else none,g.I⟩) (ρ:=ρ) (n:=s'.nx) (fun l hl=>if_pos hl) (fun _ _ _ e=>e) v a1 hv⟩
 ·exact h.sim.mem.reg r.low r.id r.inj r.hm fun l hl=>by
   rcases hl with hl | hl
   ·exact .inl hl
   ·exact .inr ⟨E.hF l hl,.inr hl⟩
def lkh:List (Nat × Blk)→Nat→Option Blk
 | []=>fun _=>none
 | (k,B) :: L=>fun t=>if t = k then some B else lkh L t
theorem lkh_get {k t:Nat} {B:Blk} {L:List (Nat × Blk)}:lkh ((k,B) :: L) t = if t = k then some B else lkh L t:=rfl
def delH (l:Nat):List (Nat × Blk)→List (Nat × Blk)
 | []=>[]
 | (k,B) :: L=>if k = l then delH l L else (k,B) :: delH l L
def putH (hp:List (Nat × Blk)) (l:Nat):Option Blk→List (Nat × Blk)
 | some B=>(l,B) :: delH l hp
 | none=>delH l hp
theorem lkh_del (l:Nat):∀ (hp:List (Nat × Blk)),lkh (delH l hp) = upd (lkh hp) l none
 | []=>by funext t; simp [delH,lkh,upd]
 | (k,B) :: L=>by
  have ih:=lkh_del l L
  funext t
  simp only [delH]
  by_cases h:k = l
  ·rw [if_pos h,ih]
   simp only [upd,lkh_get]
   by_cases ht:t = l
   ·rw [if_pos ht,if_pos ht]
   ·rw [if_neg ht,if_neg ht,if_neg (by omega)]
  ·rw [if_neg h,lkh_get,ih]
   simp only [upd,lkh_get]
   by_cases ht:t = k
   ·rw [if_pos ht,if_neg (by omega),if_pos ht]
   ·rw [if_neg ht]
    by_cases h2:t = l
    ·rw [if_pos h2,if_pos h2]
    ·rw [if_neg h2,if_neg h2,if_neg ht]
theorem lkh_put (hp:List (Nat × Blk)) (l:Nat) (B:Option Blk):lkh (putH hp l B) = upd (lkh hp) l B:=by
 cases B with
 | none=>exact lkh_del l hp
 | some B =>
  funext t
  simp only [putH,lkh_get,lkh_del]
  simp only [upd]
  by_cases h:t = l
  ·rw [if_pos h,if_pos h]
  ·rw [if_neg h,if_neg h,if_neg h]
def applyH:List (Nat × Blk)→List (Nat × Option Blk)→List (Nat × Blk)
 | hp,[]=>hp
 | hp,x :: r=>applyH (putH hp x.1 x.2) r
theorem lkh_apply:∀ (r:List (Nat × Option Blk)) (hp:List (Nat × Blk)),lkh (applyH hp r) = applyS (lkh hp) r
 | [],hp=>rfl
 | x :: r,hp=>by
  have:=lkh_apply r (putH hp x.1 x.2)
  rw [lkh_put] at this
  exact this
def renR (ρ:Nat→Nat):Ret→Ret
 | .ret v=>.ret (ren ρ v)
 | .panic v=>.panic (ren ρ v)
theorem RetOK.ren {g h:G} {ρ:Nat→Nat} {r:Ret} {e:Ending} (hμ:∀ l d,g.μ l = some d→h.μ (ρ l) = some d) (hI:∀ b o x,g.I b o = some x→h.I b o = some x) (H:RetOK g r e):RetOK h (renR ρ r) e:=by
 cases r <;> cases e <;> first | exact H.elim | exact VR.ren H hμ hI | (obtain ⟨x,h1,h2⟩:=H; exact ⟨x,h1,h2.ren hμ hI⟩)
def Ctr (P:Program) (f:FuncId) (args:List AV) (hp:List (Nat × Blk)) (n:Nat) (Q:Ret→List (Nat × Blk)→Nat→Prop):Prop :=
 Triple P f args (lkh hp) n fun r hm' nx'=>∃ hp1,hm' = lkh hp1∧Q r hp1 nx'
def later (ρ:Nat→Nat) (n nx:Nat):Nat→Nat:=fun l=>if l < n then ρ l else nx + (l - n)
def Behind (hm hm2:Nat→Option Blk) (hp hp1:List (Nat × Blk)) (ρ:Nat→Nat) (n n1 nx:Nat):Prop :=
 ∀ l B,hm2 l = some B→(∃ i B1,l = later ρ n nx i∧lkh hp1 i = some B1∧B = renB (later ρ n nx) B1)∨(hm l = some B∧∀ i B0,lkh hp i = some B0→ρ i ≠ l)
theorem Ctr.frame {P:Program} {f:FuncId} {args:List AV} {hp:List (Nat × Blk)} {n:Nat} {Q:Ret→List (Nat × Blk)→Nat→Prop} (h:Ctr P f args hp n Q) {hm:Nat→Option Blk} {nx:Nat} {ρ:Nat→Nat}
  (hρ:∀ i,i < n→ρ i < nx) (inj:∀ i j,i < n→j < n→ρ i = ρ j→i = j) (ha:ltNL n args = true) (hh:∀ i B,lkh hp i = some B→i < n∧ltNB n B = true∧hm (ρ i) = some (renB ρ B)) {Q':Ret→(Nat→Option Blk)→Nat→Prop}
  (hQ:∀ r hp1 n1,n≤n1→Q r hp1 n1→∃ hm2,Behind hm hm2 hp hp1 ρ n n1 nx∧Q' (renR (later ρ n nx) r) hm2 (nx + (n1 - n))):Triple P f (renL ρ args) hm nx Q':=by
 refine ⟨h.1,fun E F g w xs hF hM hv=>?_⟩
 let gL:G:=⟨fun i=>if i < n then g.μ (ρ i) else none,g.I⟩
 have hLμ:∀ i,i < n→gL.μ i = g.μ (ρ i):=fun i hi=>if_pos hi
 have hLn:∀ i,n≤i→gL.μ i = none:=fun i hi=>if_neg (by omega)
 let EL:Env:={ w:=w,g:=gL,K:=fun b=>∃ i B p,lkh hp i = some B∧g.μ (ρ i) = some (some p)∧p.block = b,F:=fun _=>False,n0:=n,hF:=fun _ h=>h.elim,hg:=hLn,D:=[] }
 have hML:Mem P EL (fun i=>n≤i∨gL.μ i = none) (lkh hp) gL w:={
  gl:=fun w' h1 h2=>hM.gl w' (Nat.le_trans hM.size h1) fun b hb hK=>by
   rw [← hM.keep b hb hK]
   refine h2 b (Nat.lt_of_lt_of_le hb hM.size) fun ⟨i,B,p,hi,hp',hpb⟩=>?_
   obtain ⟨a1,a2,a3⟩:=hh i B hi
   rcases hM.own _ _ p a3 hp' with h0 | h0
   ·rw [hpb] at h0; exact hK h0
   ·omega
  fresh:=fun i hi=>hi.elim (hLn i) id
  blk:=fun i B hi=>by
   obtain ⟨a,b,c⟩:=hh i B hi
   exact BlkOK.unren hLμ (fun _ _ _ e=>e) a b (hM.blk _ _ c)
  sep:=fun i j B B' p p' hi hj hne hp' hq'=>by
   obtain ⟨a1,a2,a3⟩:=hh i B hi
   obtain ⟨b1,b2,b3⟩:=hh j B' hj
   rw [hLμ i a1] at hp'; rw [hLμ j b1] at hq'
   exact hM.sep _ _ _ _ p p' a3 b3 (fun e=>hne (inj _ _ a1 b1 e)) hp' hq'
  imm:=hM.imm
  sepI:=fun i B p hi hp'=>by
   obtain ⟨a1,a2,a3⟩:=hh i B hi
   rw [hLμ i a1] at hp'
   exact hM.sepI _ _ p a3 hp'
  le0:=G.le_refl gL
  os:=rfl
  tape:=rfl
  output:=rfl
  size:=Nat.le_refl _
  keep:=fun _ _ _=>rfl
  own:=fun i B p hi hp'=>by
   obtain ⟨a1,a2,a3⟩:=hh i B hi
   rw [hLμ i a1] at hp'
   exact .inl ⟨i,B,p,hi,hp',rfl⟩
  immNew:=fun _ _ _ e=>.inl e
  exact:=fun i ty cs p hi hp' he=>by
   obtain ⟨a1,a2,a3⟩:=hh i _ hi
   rw [hLμ i a1] at hp'
   have:=hM.exact _ ty (renL ρ cs) p a3 hp' he
   rwa [renL_length] at this }
 have hvL:VRs gL args xs:=VRs.unren hLμ (fun _ _ _ e=>e) args ha hv
 refine (h.2 EL (fun i=>n≤i∨gL.μ i = none) gL w xs (fun _ h=>.inl h) hML hvL).mono ?_
 rintro e w' ⟨r,hm1,n1,g1,q1,q2,q3,q4,hp1,rfl,q5⟩
 obtain ⟨hm2,hB,hQ2⟩:=hQ r hp1 n1 q4 q5
 let ρ1:=later ρ n nx
 let g2:G:=⟨fun l=>if l < nx then g.μ l else if l < nx + (n1 - n) then g1.μ (n + (l - nx)) else none,g1.I⟩
 have hlow:∀ i,i < n→ρ1 i = ρ i:=fun i hi=>if_pos hi
 have hhigh:∀ i,n≤i→ρ1 i = nx + (i - n):=fun i hi=>if_neg (by omega)
 have hg1n:∀ i,n1≤i→g1.μ i = none:=fun i hi=>q2.fresh i ⟨.inl (by omega),by omega⟩
 have hg1l:∀ i,i < n→gL.μ i = none→g1.μ i = none:=fun i hi e=>q2.fresh i ⟨.inr e,by omega⟩
 have hgn:∀ l,nx≤l→g.μ l = none:=fun l hl=>hM.fresh l (hF l hl)
 have hI1:∀ b o x,g.I b o = some x→g1.I b o = some x:=q3.2
 have hup:∀ i d,g1.μ i = some d→g2.μ (ρ1 i) = some d:=fun i d e=>by
  by_cases hi:i < n
  ·have hlt:=hρ i hi
   rw [hlow i hi]
   show (if ρ i < nx then g.μ (ρ i) else _) = _
   rw [if_pos hlt,← hLμ i hi]
   cases hd:gL.μ i with
   | none=>rw [hg1l i hi hd] at e; simp at e
   | some d'=>have:=q3.1 i d' hd; rw [this] at e; exact e
  ·have hi1:i < n1:=by
    rcases Nat.lt_or_ge i n1 with h0 | h0
    ·exact h0
    ·rw [hg1n i h0] at e; simp at e
   rw [hhigh i (by omega)]
   show (if nx + (i - n) < nx then _ else if nx + (i - n) < nx + (n1 - n) then g1.μ (n + (nx + (i - n) - nx)) else none) = _
   rw [if_neg (by omega),if_pos (by omega),show n + (nx + (i - n) - nx) = i by omega]
   exact e
 have hinj:∀ i j,i < n1→j < n1→ρ1 i = ρ1 j→i = j:=fun i j hi hj e=>by
  by_cases h1:i < n
  ·by_cases h2:j < n
   ·rw [hlow i h1,hlow j h2] at e; exact inj i j h1 h2 e
   ·rw [hlow i h1,hhigh j (by omega)] at e; have:=hρ i h1; omega
  ·by_cases h2:j < n
   ·rw [hhigh i (by omega),hlow j h2] at e; have:=hρ j h2; omega
   ·rw [hhigh i (by omega),hhigh j (by omega)] at e; omega
 have hdn:∀ i p,i < n1→g2.μ (ρ1 i) = some (some p)→g1.μ i = some (some p):=fun i p hi e=>by
  by_cases h1:i < n
  ·rw [hlow i h1] at e
   have hlt:=hρ i h1
   have e':g.μ (ρ i) = some (some p):=by
    have:g2.μ (ρ i) = g.μ (ρ i):=if_pos hlt
    rw [← this]; exact e
   rw [← hLμ i h1] at e'
   exact q3.1 _ _ e'
  ·rw [hhigh i (by omega)] at e
   have:g2.μ (nx + (i - n)) = g1.μ i:=by
    show (if nx + (i - n) < nx then _ else if nx + (i - n) < nx + (n1 - n) then g1.μ (n + (nx + (i - n) - nx)) else none) = _
    rw [if_neg (by omega),if_pos (by omega),show n + (nx + (i - n) - nx) = i by omega]
   rw [← this]; exact e
 have hle:g.le g2:=⟨fun l d e=>by
  have hl:l < nx:=by
   rcases Nat.lt_or_ge l nx with h0 | h0
   ·exact h0
   ·rw [hgn l h0] at e; simp at e
  show (if l < nx then g.μ l else _) = _
  rw [if_pos hl]; exact e,hI1⟩
 have hg2:∀ l,l < nx→g2.μ l = g.μ l:=fun l hl=>if_pos hl
 have hkeep:∀ l B p,l < nx→hm l = some B→(∀ i B0,lkh hp i = some B0→ρ i ≠ l)→g.μ l = some (some p)→(∀ i B0 q,lkh hp i = some B0→g.μ (ρ i) = some (some q)→q.block ≠ p.block):=fun l B p hl hB hne hp' i B0 q hi hq=>by
  obtain ⟨a1,a2,a3⟩:=hh i B0 hi
  exact hM.sep _ _ _ _ q p a3 hB (hne i B0 hi) hq hp'
 have hstay:∀ b,b < w.heap.size→(∀ i B0 q,lkh hp i = some B0→g.μ (ρ i) = some (some q)→q.block ≠ b)→w'.heap[b]? = w.heap[b]?:=fun b hb hne=>q2.keep b hb (fun ⟨i,B0,q,e1,e2,e3⟩=>hne i B0 q e1 e2 e3)
 have hown1:∀ i B p,lkh hp1 i = some B→g1.μ i = some (some p)→(∃ j B0 q,lkh hp j = some B0∧g.μ (ρ j) = some (some q)∧q.block = p.block)∨w.heap.size≤p.block:=fun i B p hi hp'=>q2.own i B p hi hp'
 have hfrb:∀ l B p,l < nx→hm l = some B→(∀ i B0,lkh hp i = some B0→ρ i ≠ l)→g.μ l = some (some p)→∀ i B1 q,lkh hp1 i = some B1→g1.μ i = some (some q)→q.block ≠ p.block:=fun l B p hl hB hne hp' i B1 q hi hq e=>by
  have hlt:=hM.lt hB hp'
  rcases hown1 i B1 q hi hq with ⟨j,B0,q',e1,e2,e3⟩ | h0
  ·exact hkeep l B p hl hB hne hp' j B0 q' e1 e2 (by rw [e3,e])
  ·omega
 have hi1:∀ i B1,lkh hp1 i = some B1→i < n1:=fun i B1 hi=>by
  rcases Nat.lt_or_ge i n1 with h0 | h0
  ·exact h0
  ·obtain ⟨d,hd⟩:=(q2.blk i B1 hi).def
   rw [hg1n i h0] at hd; simp at hd
 have hwf:∀ l B,hm l = some B→l < nx:=fun l B hl=>by
  rcases Nat.lt_or_ge l nx with h0 | h0
  ·exact h0
  ·obtain ⟨d,hd⟩:=(hM.blk l B hl).def
   rw [hgn l h0] at hd; simp at hd
 refine ⟨renR ρ1 r,hm2,nx + (n1 - n),g2,q1.ren hup (fun _ _ _ e=>e),?_,hle,Nat.le_add_right _ _,hQ2⟩
 exact {
  gl:=hM.gl
  fresh:=fun l ⟨hl1,hl2⟩=>by
   by_cases h0:l < nx
   ·rw [hg2 l h0]; exact hM.fresh l hl1
   ·show (if l < nx then _ else if l < nx + (n1 - n) then _ else none) = none
    rw [if_neg h0,if_neg (by omega)]
  blk:=fun l B hl=>by
   rcases hB l B hl with ⟨i,B1,rfl,e1,rfl⟩ | ⟨hl1,hne⟩
   ·exact (q2.blk i B1 e1).ren hup (fun _ _ _ e=>e)
   ·exact (hM.blk l B hl1).mono hle fun p hp'=>hstay _ (hM.lt hl1 hp') (hkeep l B p (hwf _ _ hl1) hl1 hne hp')
  sep:=fun l l' B B' p p' hl hl' hne hp' hq'=>by
   rcases hB l B hl with ⟨i,B1,rfl,e1,rfl⟩ | ⟨hl1,hne1⟩
   ·rcases hB l' B' hl' with ⟨j,B2,rfl,e2,rfl⟩ | ⟨hl1',hne2⟩
    ·exact q2.sep i j _ _ p p' e1 e2 (fun e=>hne (by rw [e])) (hdn i p (hi1 _ _ e1) hp') (hdn j p' (hi1 _ _ e2) hq')
    ·rw [hg2 l' (hwf _ _ hl1')] at hq'
     exact hfrb l' B' p' (hwf _ _ hl1') hl1' hne2 hq' i B1 p e1 (hdn i p (hi1 _ _ e1) hp')
   ·rw [hg2 l (hwf _ _ hl1)] at hp'
    rcases hB l' B' hl' with ⟨j,B2,rfl,e2,rfl⟩ | ⟨hl1',hne2⟩
    ·exact fun e=>hfrb l B p (hwf _ _ hl1) hl1 hne1 hp' j B2 p' e2 (hdn j p' (hi1 _ _ e2) hq') e.symm
    ·rw [hg2 l' (hwf _ _ hl1')] at hq'
     exact hM.sep l l' _ _ p p' hl1 hl1' hne hp' hq'
  imm:=q2.imm
  sepI:=fun l B p hl hp' o ho=>by
   rcases hB l B hl with ⟨i,B1,rfl,e1,rfl⟩ | ⟨hl1,hne1⟩
   ·exact q2.sepI i B1 p e1 (hdn i p (hi1 _ _ e1) hp') o ho
   ·rw [hg2 l (hwf _ _ hl1)] at hp'
    cases hx:g1.I p.block o with
    | none=>rfl
    | some x =>
     exfalso
     rcases q2.immNew p.block o x hx with h0 | h0 | h0
     ·have:=hM.sepI l B p hl1 hp' o ho
      have h0':g.I p.block o = some x:=h0
      rw [this] at h0'; simp at h0'
     ·obtain ⟨j,B0,q,e1,e2,e3⟩:=h0
      exact hkeep l B p (hwf _ _ hl1) hl1 hne1 hp' j B0 q e1 e2 e3
     ·have:=hM.lt hl1 hp'
      have h0':w.heap.size≤p.block:=h0
      omega
  le0:=G.le_trans hM.le0 hle
  os:=q2.os.trans hM.os
  tape:=q2.tape.trans hM.tape
  output:=q2.output.trans hM.output
  size:=Nat.le_trans hM.size q2.size
  keep:=fun b hb hK=>by
   rw [← hM.keep b hb hK]
   refine hstay b (Nat.lt_of_lt_of_le hb hM.size) fun i B0 q hi hq e=>?_
   obtain ⟨a1,a2,a3⟩:=hh i B0 hi
   rcases hM.own _ _ q a3 hq with h0 | h0
   ·rw [e] at h0; exact hK h0
   ·omega
  own:=fun l B p hl hp'=>by
   rcases hB l B hl with ⟨i,B1,rfl,e1,rfl⟩ | ⟨hl1,hne1⟩
   ·rcases hown1 i B1 p e1 (hdn i p (hi1 _ _ e1) hp') with ⟨j,B0,q,f1,f2,f3⟩ | h0
    ·obtain ⟨a1,a2,a3⟩:=hh j B0 f1
     rw [← f3]; exact hM.own _ _ q a3 f2
    ·exact .inr (Nat.le_trans hM.size h0)
   ·rw [hg2 l (hwf _ _ hl1)] at hp'; exact hM.own l B p hl1 hp'
  immNew:=fun b o x hx=>by
   rcases q2.immNew b o x hx with h0 | h0 | h0
   ·exact hM.immNew b o x h0
   ·obtain ⟨j,B0,q,e1,e2,e3⟩:=h0
    obtain ⟨a1,a2,a3⟩:=hh j B0 e1
    rw [← e3]; exact .inr (hM.own _ _ q a3 e2)
   ·exact .inr (.inr (Nat.le_trans hM.size h0))
  exact:=fun l ty cs p hl hp' he=>by
   rcases hB l _ hl with ⟨i,B1,rfl,e1,e2⟩ | ⟨hl1,hne1⟩
   ·cases B1 with
    | mp es=>simp [renB] at e2
    | row ty2 cs2 =>
     simp only [renB,Blk.row.injEq] at e2
     obtain ⟨rfl,rfl⟩:=e2
     rw [renL_length]
     exact q2.exact i ty cs2 p e1 (hdn i p (hi1 _ _ e1) hp') he
   ·rw [hg2 l (hwf _ _ hl1)] at hp'; exact hM.exact l ty cs p hl1 hp' he }
end Go.SL
